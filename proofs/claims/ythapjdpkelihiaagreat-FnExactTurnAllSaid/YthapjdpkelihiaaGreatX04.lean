/- DERIVED. Part 4 of the proof: C28, C29, C30, C31, C32, C33, P1. No statement of the program is proved here. -/
import Derived.Test.YthapjdpkelihiaaGreatX03
set_option linter.unusedSimpArgs false
set_option linter.unusedVariables false
set_option linter.unusedSectionVars false
section
namespace Go.Proofs.YthapjdpkelihiaaGreat.Am
noncomputable def I141 (k:Int) (n1 n2 n3:Nat) (nl1 nl2 nl3:Option Bool) (cap1 cap2 cap3:Option Nat) (a b:List Int) (c:List Bool) (vs:Int) (n:Nat) (v:List Int) (i j:Int):St:=
 stOf f141.ntmps [(0,.c (.sl 0 0 n 1 none)),(1,.c (.fn 155 [.ptr 1 0 0 0,.ptr 2 0 0 0])),(5,.c (.int .i64 i)),(6,.c (.int .i64 j))]
  [.live (.ints .i64 v),.live (.cells [.int .i64 k,.view nl1 (.ints .i64 a) n1 1 cap1,.view nl2 (.ints .i64 b) n2 1 cap2,.view nl3 (.bools c) n3 1 cap3]),.live (.ints .i64 [vs])]
noncomputable def X141 (k:Int) (n1 n2 n3:Nat) (nl1 nl2 nl3:Option Bool) (cap1 cap2 cap3:Option Nat) (a b:List Int) (c:List Bool) (vs:Int) (n:Nat) (v:List Int) (i:Int):St:=
 stOf f141.ntmps [(0,.c (.sl 0 0 n 1 none)),(5,.c (.int .i64 i))]
  [.live (.ints .i64 v),.live (.cells [.int .i64 k,.view nl1 (.ints .i64 a) n1 1 cap1,.view nl2 (.ints .i64 b) n2 1 cap2,.view nl3 (.bools c) n3 1 cap3]),.live (.ints .i64 [vs])]
theorem r141_1 (k:Int) (n1 n2 n3:Nat) (nl1 nl2 nl3:Option Bool) (cap1 cap2 cap3:Option Nat) (a b:List Int) (c:List Bool) (vs:Int) (n:Nat) (v:List Int) (i j:Int):roundR 3 (liveH f141 0) (liveB' f141 0) (evalC tt (ctOf T28) ([]) 3 100 (bodyAt 0 (codeOf f141)) (I141 k n1 n2 n3 nl1 nl2 nl3 cap1 cap2 cap3 a b c vs n v i j) [(0,true),(0,true)])=
  some (.normal,(decide (j<(↑n:Int))&&(decide (0≤j)&&(decide (j<(↑n:Int))&&(decide (j.toNat<v.length)&&((decide (0≤v.getD j.toNat 0)&&(decide (v.getD j.toNat 0<(↑n2:Int))&&(decide ((v.getD j.toNat 0).toNat<b.length)&&true)))&&((!b.getD (v.getD j.toNat 0).toNat 0 !=vs)&&(decide (0≤i)&&(decide (i<(↑n:Int))&&((decide (i.toNat<v.length))&&true))))))))),[],I141 k n1 n2 n3 nl1 nl2 nl3 cap1 cap2 cap3 a b c vs n (v.set i.toNat (v.getD j.toNat 0)) (IntKind.i64.wrap (i+1)) (IntKind.i64.wrap (j+1))):=by kernel_rfl
theorem r141_2 (k:Int) (n1 n2 n3:Nat) (nl1 nl2 nl3:Option Bool) (cap1 cap2 cap3:Option Nat) (a b:List Int) (c:List Bool) (vs:Int) (n:Nat) (v:List Int) (i j:Int):roundR 3 (liveH f141 0) (liveB' f141 0) (evalC tt (ctOf T28) ([]) 3 100 (bodyAt 0 (codeOf f141)) (I141 k n1 n2 n3 nl1 nl2 nl3 cap1 cap2 cap3 a b c vs n v i j) [(0,true),(0,false)])=
  some (.normal,(decide (j<(↑n:Int))&&(decide (0≤j)&&(decide (j<(↑n:Int))&&(decide (j.toNat<v.length)&&((decide (0≤v.getD j.toNat 0)&&(decide (v.getD j.toNat 0<(↑n2:Int))&&(decide ((v.getD j.toNat 0).toNat<b.length)&&true)))&&((!!b.getD (v.getD j.toNat 0).toNat 0 !=vs)&&true)))))),[],I141 k n1 n2 n3 nl1 nl2 nl3 cap1 cap2 cap3 a b c vs n (v) (i) (IntKind.i64.wrap (j+1))):=by kernel_rfl
theorem r141_3 (k:Int) (n1 n2 n3:Nat) (nl1 nl2 nl3:Option Bool) (cap1 cap2 cap3:Option Nat) (a b:List Int) (c:List Bool) (vs:Int) (n:Nat) (v:List Int) (i j:Int):roundR 3 (liveH f141 0) (liveB' f141 0) (evalC tt (ctOf T28) ([]) 3 100 (bodyAt 0 (codeOf f141)) (I141 k n1 n2 n3 nl1 nl2 nl3 cap1 cap2 cap3 a b c vs n v i j) [(0,false)])=
  some (.exit 0,((!decide (j<(↑n:Int)))&&true),[],X141 k n1 n2 n3 nl1 nl2 nl3 cap1 cap2 cap3 a b c vs n (v) (i)):=by kernel_rfl
theorem x141n_1 (k:Int) (n1 n2 n3:Nat) (nl1 nl2 nl3:Option Bool) (cap1 cap2 cap3:Option Nat) (a b:List Int) (c:List Bool) (vs:Int) (n:Nat) (v:List Int):evalF tt (ctOf T28) ([]) 100 f141 [.c (.sl 0 0 n 1 none),.c (.fn 155 [.ptr 1 0 0 0,.ptr 2 0 0 0])] [.live (.ints .i64 v),.live (.cells [.int .i64 k,.view nl1 (.ints .i64 a) n1 1 cap1,.view nl2 (.ints .i64 b) n2 1 cap2,.view nl3 (.bools c) n3 1 cap3]),.live (.ints .i64 [vs])] [(0,true)]=
  some ⟨.c (.sl 0 0 n 1 none),[.live (.ints .i64 v),.live (.cells [.int .i64 k,.view nl1 (.ints .i64 a) n1 1 cap1,.view nl2 (.ints .i64 b) n2 1 cap2,.view nl3 (.bools c) n3 1 cap3]),.live (.ints .i64 [vs])],(decide (v.length≤274877906944)&&(decide (v.length=n)&&(places v b.length&&(decide (n2=b.length)&&((idxL (fun x=>b.getD x.toNat 0 !=vs) v== -1)&&true))))),[]⟩:=by kernel_rfl
theorem x141_2 (k:Int) (n1 n2 n3:Nat) (nl1 nl2 nl3:Option Bool) (cap1 cap2 cap3:Option Nat) (a b:List Int) (c:List Bool) (vs:Int) (n:Nat) (v v':List Int) (i:Int):evalF tt (ctOf T28) ([(0,⟨liveH f141 0,I141 k n1 n2 n3 nl1 nl2 nl3 cap1 cap2 cap3 a b c vs n v (idxL (fun x=>b.getD x.toNat 0 !=vs) v) (IntKind.i64.wrap (idxL (fun x=>b.getD x.toNat 0 !=vs) v+1)),.normal,X141 k n1 n2 n3 nl1 nl2 nl3 cap1 cap2 cap3 a b c vs n v' i⟩)]) 100 f141 [.c (.sl 0 0 n 1 none),.c (.fn 155 [.ptr 1 0 0 0,.ptr 2 0 0 0])] [.live (.ints .i64 v),.live (.cells [.int .i64 k,.view nl1 (.ints .i64 a) n1 1 cap1,.view nl2 (.ints .i64 b) n2 1 cap2,.view nl3 (.bools c) n3 1 cap3]),.live (.ints .i64 [vs])] [(0,false)]=
  some ⟨.c (.sl 0 0 i.toNat 1 none),[.live (.ints .i64 (List.take i.toNat v'++(List.replicate (n-i.toNat) 0++List.drop (i.toNat+(n-i.toNat)) v'))),.live (.cells [.int .i64 k,.view nl1 (.ints .i64 a) n1 1 cap1,.view nl2 (.ints .i64 b) n2 1 cap2,.view nl3 (.bools c) n3 1 cap3]),.live (.ints .i64 [vs])],(decide (v.length≤274877906944)&&(decide (v.length=n)&&(places v b.length&&(decide (n2=b.length)&&((!idxL (fun x=>b.getD x.toNat 0 !=vs) v== -1)&&(decide (0≤i)&&(decide (i≤(↑n:Int))&&(decide (i.toNat+(n-i.toNat)≤v'.length)&&(decide (0≤i)&&((decide (i≤(↑n:Int)))&&true)))))))))),[I141 k n1 n2 n3 nl1 nl2 nl3 cap1 cap2 cap3 a b c vs n v (idxL (fun x=>b.getD x.toNat 0 !=vs) v) (IntKind.i64.wrap (idxL (fun x=>b.getD x.toNat 0 !=vs) v+1))=I141 k n1 n2 n3 nl1 nl2 nl3 cap1 cap2 cap3 a b c vs n v (idxL (fun x=>b.getD x.toNat 0 !=vs) v) (IntKind.i64.wrap (idxL (fun x=>b.getD x.toNat 0 !=vs) v+1))]⟩:=by kernel_rfl
theorem idxAt_some {q:Int→Bool} {v:List Int}: ∀ {f i j:Nat},idxAt q v f i=some j→i≤j∧j<i+f∧q (v.getD j 0)=true∧ ∀k,i≤k→k<j→q (v.getD k 0)=false
 |0,i,j,h=>by simp[idxAt]at h
 |f+1,i,j,h=>by
  simp only[idxAt]at h
  cases hq:q (v.getD i 0)with
  |true=>
   rw[hq,cond_true]at h
   injection h with h;subst h
   exact⟨Nat.le_refl _,by omega,hq,fun k h1 h2=>by omega⟩
  |false=>
   rw[hq,cond_false]at h
   obtain⟨h1,h2,h3,h4⟩:=idxAt_some h
   refine⟨by omega,by omega,h3,fun k h5 h6=> ?_⟩
   by_cases e:k=i
   ·subst e;exact hq
   ·exact h4 k (by omega) h6
theorem idxAt_none {q:Int→Bool} {v:List Int}: ∀ {f i:Nat},idxAt q v f i=none→ ∀k,i≤k→k<i+f→q (v.getD k 0)=false
 |0,i,h,k,h1,h2=>by omega
 |f+1,i,h,k,h1,h2=>by
  simp only[idxAt]at h
  cases hq:q (v.getD i 0)with
  |true=>rw[hq,cond_true]at h;cases h
  |false=>
   rw[hq,cond_false]at h
   by_cases e:k=i
   ·subst e;exact hq
   ·exact idxAt_none h k (by omega) (by omega)
theorem filter_take_all {q:Int→Bool} {v:List Int}: ∀(n:Nat),n≤v.length→(∀k,k<n→q (v.getD k 0)=false)→(v.take n).filter (fun x=> !q x)=v.take n:=by
 intro n hn h
 refine List.filter_eq_self.2 fun x hx=> ?_
 obtain⟨k,hk⟩:=List.getElem?_of_mem hx
 rw[List.getElem?_take]at hk
 split at hk
 ·rename_i h1
  have:=h k h1
  rw[List.getD_eq_getElem?_getD,hk]at this
  simpa using this
 ·cases hk
theorem take_snoc {v:List Int} {n:Nat} (h:n<v.length):v.take (n+1)=v.take n++[v.getD n 0]:=by
 rw[List.take_add_one,List.getD_eq_getElem?_getD,List.getElem?_eq_getElem h];rfl
def delS (q:Int→Bool) (j0:Nat) (t:Nat) (s:List Int×Nat):List Int×Nat:=bif q (s.1.getD (j0+t) 0)then s else(s.1.set s.2 (s.1.getD (j0+t) 0),s.2+1)
def DelI (q:Int→Bool) (v:List Int) (j0:Nat) (t:Nat) (s:List Int×Nat):Prop:=
 s.1.length=v.length∧s.2<j0+t∧(∀k,j0+t≤k→s.1.getD k 0=v.getD k 0)∧s.1.take s.2=(v.take (j0+t)).filter (fun x=> !q x)
theorem delS_inv {q:Int→Bool} {v:List Int} {j0 t:Nat} {s:List Int×Nat} (h:DelI q v j0 t s) (ht:j0+t<v.length):DelI q v j0 (t+1) (delS q j0 t s):=by
 obtain⟨h1,h2,h3,h4⟩:=h
 have hx:=h3 (j0+t) (Nat.le_refl _)
 unfold delS
 have ht':v.take (j0+(t+1))=v.take (j0+t)++[v.getD (j0+t) 0]:=take_snoc ht
 cases hq:q (s.1.getD (j0+t) 0)with
 |true=>
  rw[cond_true]
  refine⟨h1,by omega,fun k hk=>h3 k (by omega), ?_⟩
  rw[ht',List.filter_append,h4]
  rw[hx]at hq
  rw[List.filter_cons,hq];simp
 |false=>
  rw[cond_false]
  refine⟨by simp[h1],by dsimp only;omega,fun k hk=> ?_, ?_⟩
  ·dsimp only
   rw[getD_set,if_neg (by omega)]
   exact h3 k (by omega)
  ·dsimp only
   rw[take_snoc (by rw[List.length_set];omega),List.take_set,List.set_eq_of_length_le (by rw[List.length_take];omega),getD_set,if_pos ⟨rfl,by omega⟩,h4,ht',List.filter_append]
   rw[hx]at hq
   rw[hx,List.filter_cons,hq];simp
theorem delI_init {q:Int→Bool} {v:List Int} {i:Nat} (h:idxO q v=some i):i<v.length∧DelI q v (i+1) 0 (v,i):=by
 obtain⟨h1,h2,h3,h4⟩:=idxAt_some h
 have hi:i<v.length:=by omega
 refine⟨hi,rfl,by dsimp only;omega,fun k _=>rfl, ?_⟩
 dsimp only
 rw[Nat.add_zero,take_snoc hi,List.filter_append,filter_take_all i (by omega) (fun k hk=>h4 k (by omega) hk)]
 simp only[List.filter_cons,h3,List.filter_nil,Bool.not_true,Bool.false_eq_true,if_false,List.append_nil]
theorem l141 (k:Int) (n1 n2 n3:Nat) (nl1 nl2 nl3:Option Bool) (cap1 cap2 cap3:Option Nat) (a b:List Int) (c:List Bool) (vs:Int) (v:List Int) (i0:Nat) (hl:v.length≤274877906944) (hp:places v b.length=true) (h2:n2=b.length) (h0:idxO (fun x=>b.getD x.toNat 0 !=vs) v=some i0):
  Good Tryz.prog 3 (.block 0 (.loop (bodyAt 0 (codeOf f141)))) (I141 k n1 n2 n3 nl1 nl2 nl3 cap1 cap2 cap3 a b c vs v.length v i0 (i0+1:Nat)) fun e t=>e=.normal∧
   t=X141 k n1 n2 n3 nl1 nl2 nl3 cap1 cap2 cap3 a b c vs v.length (runN (delS (fun x=>b.getD x.toNat 0 !=vs) (i0+1)) (v.length-(i0+1)) 0 (v,i0)).1 (runN (delS (fun x=>b.getD x.toNat 0 !=vs) (i0+1)) (v.length-(i0+1)) 0 (v,i0)).2:=by
 obtain⟨g1,g2⟩:=delI_init h0
 refine Good.count hT t28 hmix (v.length-(i0+1)) (DelI (fun x=>b.getD x.toNat 0 !=vs) v (i0+1)) (fun t s=>I141 k n1 n2 n3 nl1 nl2 nl3 cap1 cap2 cap3 a b c vs v.length s.1 s.2 (i0+1+t:Nat)) (fun s=>X141 k n1 n2 n3 nl1 nl2 nl3 cap1 cap2 cap3 a b c vs v.length s.1 s.2) (delS (fun x=>b.getD x.toNat 0 !=vs) (i0+1)) (liveH f141 0) (liveB' f141 0)
  (fun _ _=>[]) (fun _ _ _ _=>LcOk.nil) (fun t s ht h=>⟨delS_inv h (by omega), ?_⟩) (fun s h=> ?_) (v,i0) g2
 ·have hn:=delS_inv h (by omega)
  obtain⟨d1,d2,d3,d4⟩:=h
  have hpl:=places_get hp (i:=i0+1+t) (by omega)
  have hx:=d3 (i0+1+t) (Nat.le_refl _)
  unfold delS
  cases hq:b.getD (s.1.getD (i0+1+t) 0).toNat 0 !=vs with
  |true=>
   have e:=r141_2 k n1 n2 n3 nl1 nl2 nl3 cap1 cap2 cap3 a b c vs v.length s.1 s.2 (i0+1+t:Nat)
   rw[wrap_small (by omega) (by omega),Int.toNat_natCast]at e
   dsimp only
   rw[hq]
   refine⟨_,_,⟨_,_,e, ?_,by simp⟩⟩
   simp only[hq,Bool.not_true,Bool.not_false,Bool.true_and,Bool.and_true,Bool.and_eq_true,decide_eq_true_eq]
   omega
  |false=>
   have e:=r141_1 k n1 n2 n3 nl1 nl2 nl3 cap1 cap2 cap3 a b c vs v.length s.1 s.2 (i0+1+t:Nat)
   rw[wrap_small (i:=((i0+1+t:Nat):Int)+1) (by omega) (by omega),wrap_small (i:=(s.2:Int)+1) (by omega) (by omega),Int.toNat_natCast,Int.toNat_natCast]at e
   dsimp only
   rw[hq]
   refine⟨_,_,⟨_,_,e, ?_,by simp⟩⟩
   simp only[hq,Bool.not_false,Bool.true_and,Bool.and_true,Bool.and_eq_true,decide_eq_true_eq]
   omega
 ·rw[show i0+1+(v.length-(i0+1))=v.length from by omega]
  exact⟨_,_,⟨_,_,r141_3 k n1 n2 n3 nl1 nl2 nl3 cap1 cap2 cap3 a b c vs v.length s.1 s.2 v.length,by simp,by simp⟩⟩
def FFdel:Model:=fun args h=>
 match args,h with
 |[.c (.sl 0 0 n 1 none),.c (.fn 155 [.ptr 1 0 0 0,.ptr 2 0 0 0])],[.live (.ints .i64 v),.live (.cells [.int .i64 k,.view nl1 (.ints .i64 a) n1 1 cap1,.view nl2 (.ints .i64 b) n2 1 cap2,.view nl3 (.bools c) n3 1 cap3]),.live (.ints .i64 [vs])]=>
  some (.c (.sl 0 0 (v.filter fun x=> !(b.getD x.toNat 0 !=vs)).length 1 none),[.live (.ints .i64 (v.filter fun x=> !(b.getD x.toNat 0 !=vs))),.live (.cells [.int .i64 k,.view nl1 (.ints .i64 a) n1 1 cap1,.view nl2 (.ints .i64 b) n2 1 cap2,.view nl3 (.bools c) n3 1 cap3]),.live (.ints .i64 [vs])],[decide (v.length≤274877906944),decide (v.length=n),places v b.length,decide (n2=b.length)])
 |_,_=>none
theorem m141:ModelOk Tryz.prog 154 FFdel:=by
 intro args h res h' o he ho
 unfold FFdel at he
 split at he
 case h_2=>cases he
 rename_i n v k nl1 a n1 cap1 nl2 b n2 cap2 nl3 c n3 cap3 vs
 simp only[Option.some.injEq,Prod.mk.injEq]at he
 obtain⟨rfl,rfl,rfl⟩:=he
 simp only[List.mem_cons,List.not_mem_nil,or_false,forall_eq_or_imp,forall_eq,decide_eq_true_eq]at ho
 obtain⟨o1,o2,o3,o4⟩:=ho
 subst o2
 cases hx:idxO (fun x=>b.getD x.toNat 0 !=vs) v with
 |none=>
  have hL:idxL (fun x=>b.getD x.toNat 0 !=vs) v= -1:=by unfold idxL;rw[hx]
  have hf:(v.filter fun x=> !(b.getD x.toNat 0 !=vs))=v:=by
   have:=filter_take_all (q:=(fun x=>b.getD x.toNat 0 !=vs)) (v:=v) v.length (Nat.le_refl _) (fun k hk=>idxAt_none hx k (by omega) (by omega))
   rw[List.take_length]at this;exact this
  rw[hf]
  exact meets_of t28 (fn:=f141) (by kernel_rfl) (by kernel_rfl) (x141n_1 k n1 n2 n3 nl1 nl2 nl3 cap1 cap2 cap3 a b c vs v.length v) (by rw[hL];simp[o1,o3,o4]) (by simp) (fun c _=>LcOk.nil)
 |some i0=>
  have hL:idxL (fun x=>b.getD x.toNat 0 !=vs) v=i0:=by unfold idxL;rw[hx]
  obtain⟨g1,g2⟩:=delI_init hx
  have g:=l141 k n1 n2 n3 nl1 nl2 nl3 cap1 cap2 cap3 a b c vs v i0 o1 o3 o4 hx
  have fin:=runN_inv0 (step:=delS (fun x=>b.getD x.toNat 0 !=vs) (i0+1)) (DelI (fun x=>b.getD x.toNat 0 !=vs) v (i0+1)) (v.length-(i0+1)) (v,i0) g2 fun t s ht h=>delS_inv h (by omega)
  generalize runN (delS (fun x=>b.getD x.toNat 0 !=vs) (i0+1)) (v.length-(i0+1)) 0 (v,i0)=s at g fin
  obtain⟨d1,d2,d3,d4⟩:=fin
  rw[show i0+1+(v.length-(i0+1))=v.length from by omega]at d2 d4
  rw[List.take_length]at d4
  have hlen:(v.filter fun x=> !(b.getD x.toNat 0 !=vs)).length=s.2:=by rw[←d4,List.length_take];omega
  have e:=x141_2 k n1 n2 n3 nl1 nl2 nl3 cap1 cap2 cap3 a b c vs v.length v s.1 s.2
  rw[hL]at e
  have hw:IntKind.i64.wrap ((i0:Int)+1)=(i0+1:Nat):=by rw[wrap_small (by omega) (by omega)];rfl
  rw[hw,Int.toNat_natCast]at e
  have mm:=meets_of (f:=154) t28 (fn:=f141) (by kernel_rfl) (by kernel_rfl) e (by
    have h3:(((i0:Int))== -1)=false:=by
     rw[beq_eq_false_iff_ne];omega
    simp only[h3,o1,o3,o4,Bool.not_false,Bool.true_and,Bool.and_true,Bool.and_eq_true,decide_eq_true_eq,true_and,and_true]
    omega) (by simp) (fun cc hc=>LcOk.cons (c:=cc) (by cases hc;kernel_rfl) (by cases hc;exact g) LcOk.nil)
  rw[hlen]
  refine mm.slots ⟨?_,SlotLe.refl _,SlotLe.refl _,trivial⟩
  have h6:(List.take s.2 s.1++(List.replicate (v.length-s.2) 0++List.drop (s.2+(v.length-s.2)) s.1)).take s.2=v.filter fun x=> !(b.getD x.toNat 0 !=vs):=by
   rw[List.take_append_of_le_length (by rw[List.length_take];omega),List.take_take,Nat.min_self];exact d4
  rw[←h6]
  exact SlotLe.take _ _ _
end Go.Proofs.YthapjdpkelihiaaGreat.Am
end
section
namespace Go.Proofs.YthapjdpkelihiaaGreat.Am
noncomputable def T29:List Entry:=[⟨154,[0,1],FFdel⟩]++T28
theorem e29:EntriesOk Tryz.prog T29:=by
 refine EntriesOk.append ?_ e28
 intro e he
 simp only[List.mem_cons,List.not_mem_nil,or_false]at he
 subst he;exact m141
theorem t29:CtOk Tryz.prog (ctOf T29):=ctOf_ok e29
theorem x111_1 (k:Int) (a b:List Int) (c:List Bool) (vs:Int):evalF tt (ctOf T29) ([]) 100 Tryz.f112 [.agg [.int .i64 k,.view none (.ints .i64 a) a.length 1 none,.view none (.ints .i64 b) b.length 1 none,.view none (.bools c) c.length 1 none],.c (.int .i64 vs)] [] []=
  some ⟨.c (.sl 0 0 (List.filter (fun x=> !b.getD x.toNat 0 !=vs) (flg c)).length 1 none),[.live (.ints .i64 (List.filter (fun x=> !b.getD x.toNat 0 !=vs) (flg c)))],(decide (c.length≤274877906944)&&(decide ((flg c).length≤274877906944)&&(decide ((flg c).length=(flg c).length)&&(places (flg c) b.length&&((decide (b.length=b.length))&&true))))),[]⟩:=by kernel_rfl
def ofL (b:List Int) (c:List Bool) (vs:Int):List Int:=(flg c).filter fun x=> !(b.getD x.toNat 0 !=vs)
def FFof:Model:=fun args h=>
 match args,h with
 |[.agg [.int .i64 k,.view _ (.ints .i64 a) n1 1 _,.view _ (.ints .i64 b) n2 1 _,.view _ (.bools c) n3 1 _],.c (.int .i64 vs)],[]=>
  some (.c (.sl 0 0 (ofL b c vs).length 1 none),[.live (.ints .i64 (ofL b c vs))],[decide (c.length≤274877906944),decide (b.length=c.length)])
 |_,_=>none
theorem flgAt_places (bs:List Bool) (N:Nat): ∀k i,i+k≤N→places (flgAt bs k i) N=true
 |0,_,_=>rfl
 |k+1,i,h=>by
  have:=flgAt_places bs N k (i+1) (by omega)
  simp only[flgAt]
  split
  ·simp only[places,List.all_cons,Bool.and_eq_true,decide_eq_true_eq]
   exact⟨by omega,this⟩
  ·exact this
theorem flg_places (bs:List Bool):places (flg bs) bs.length=true:=flgAt_places bs bs.length _ _ (by omega)
theorem flg_len (bs:List Bool):(flg bs).length≤bs.length:=flgAt_len bs _ _
theorem m111:ModelN Tryz.prog 112 FFof:=by
 intro args h res h' o hnorm he ho
 unfold FFof at he
 split at he
 case h_2=>cases he
 rename_i k nl1 a n1 cap1 nl2 b n2 cap2 nl3 c n3 cap3 vs
 simp only[Option.some.injEq,Prod.mk.injEq]at he
 obtain⟨rfl,rfl,rfl⟩:=he
 simp only[List.mem_cons,List.not_mem_nil,or_false,forall_eq_or_imp,forall_eq,decide_eq_true_eq]at ho
 obtain⟨o1,o2⟩:=ho
 simp only[normA,AV.norm,normL,Cell.norm,Con.size,List.cons.injEq,AV.c.injEq,AV.agg.injEq,Cell.view.injEq,nlen_one,true_and,and_true]at hnorm
 obtain⟨⟨rfl,rfl,rfl⟩,⟨rfl,rfl,rfl⟩,rfl,rfl,rfl⟩:=hnorm
 have h1:=flg_len c
 exact meets_of t29 (by kernel_rfl) (by kernel_rfl) (x111_1 k a b c vs) (by simp[o1,o2,flg_places];omega) (by simp) (fun c _=>LcOk.nil)
theorem x190_1 (a:Int):evalF tt (ctOf T29) ([]) 100 Tryz.f224 [.c (.int .i64 a)] [] []=
  some ⟨.c (.bool (a !=a)),[],true,[]⟩:=by kernel_rfl
def FFnan:Model:=fun args h=>
 match args,h with
 |[.c (.int .i64 a)],[]=>
  some (.c (.bool false),[],[])
 |_,_=>none
theorem m190:ModelOk Tryz.prog 224 FFnan:=by
 intro args h res h' o he ho
 unfold FFnan at he
 split at he
 case h_2=>cases he
 rename_i a
 simp only[Option.some.injEq,Prod.mk.injEq]at he
 obtain⟨rfl,rfl,rfl⟩:=he
 have e:=x190_1 a
 rw[bne_self_eq_false]at e
 exact meets_of t29 (by kernel_rfl) (by kernel_rfl) e rfl (by simp) (fun c _=>LcOk.nil)
noncomputable def T30:List Entry:=[⟨112,[],nm FFof⟩,⟨224,[],FFnan⟩]++T29
theorem e30:EntriesOk Tryz.prog T30:=by
 refine EntriesOk.append ?_ e29
 intro e he
 simp only[List.mem_cons,List.not_mem_nil,or_false]at he
 rcases he with rfl|rfl
 ·exact m111.ok
 ·exact m190
theorem t30:CtOk Tryz.prog (ctOf T30):=ctOf_ok e30
theorem x172_1 (a b:Int):evalF tt (ctOf T30) ([]) 100 Tryz.f205 [.c (.int .i64 a),.c (.int .i64 b)] [] []=
  some ⟨.c (.bool (decide (a<b))),[],true,[]⟩:=by kernel_rfl
def FFless2:Model:=fun args h=>
 match args,h with
 |[.c (.int .i64 a),.c (.int .i64 b)],[]=>
  some (.c (.bool (decide (a<b))),[],[])
 |_,_=>none
theorem m172:ModelOk Tryz.prog 205 FFless2:=by
 intro args h res h' o he ho
 unfold FFless2 at he
 split at he
 case h_2=>cases he
 rename_i a b
 simp only[Option.some.injEq,Prod.mk.injEq]at he
 obtain⟨rfl,rfl,rfl⟩:=he
 exact meets_of t30 (by kernel_rfl) (by kernel_rfl) (x172_1 a b) rfl (by simp) (fun c _=>LcOk.nil)
noncomputable def T31:List Entry:=[⟨205,[],FFless2⟩]++T30
theorem e31:EntriesOk Tryz.prog T31:=by
 refine EntriesOk.append ?_ e30
 intro e he
 simp only[List.mem_cons,List.not_mem_nil,or_false]at he
 subst he;exact m172
theorem t31:CtOk Tryz.prog (ctOf T31):=ctOf_ok e31
noncomputable abbrev f166:=Tryz.f199
noncomputable def I166 (n:Nat) (v:List Int) (i:Int):St:=
 stOf f166.ntmps [(0,.c (.sl 0 0 n 1 none)),(1,.c (.int .i64 0)),(2,.c (.int .i64 n)),(6,.c (.int .i64 i))] [.live (.ints .i64 v)]
noncomputable def X166 (v:List Int):St:=stOf f166.ntmps [] [.live (.ints .i64 v)]
noncomputable def J166 (n:Nat) (v:List Int) (i j:Int):St:=
 stOf f166.ntmps [(0,.c (.sl 0 0 n 1 none)),(1,.c (.int .i64 0)),(2,.c (.int .i64 n)),(6,.c (.int .i64 i)),(7,.c (.int .i64 j))] [.live (.ints .i64 v)]
theorem r166b_1 (n:Nat) (v:List Int) (i j:Int):roundR 1 (liveH f166 2) (liveB' f166 2) (evalC tt (ctOf T31) ([]) 1 100 (bodyAt 2 (codeOf f166)) (J166 n v i j) [(0,true),(0,true)])=
  some (.normal,(decide (j>0)&&(decide (j>0)&&(decide (j>0)&&(decide (0≤j)&&(decide (j<(↑n:Int))&&(decide (j>0)&&(decide (j.toNat<v.length)&&(decide (j>0)&&(decide (j>0)&&(decide (j>0)&&(decide (j>0)&&(decide (0≤IntKind.i64.wrap (j-1))&&(decide (IntKind.i64.wrap (j-1)<(↑n:Int))&&(decide (j>0)&&(decide ((IntKind.i64.wrap (j-1)).toNat<v.length)&&(decide (j>0)&&((bif decide (j>0)then decide (v.getD j.toNat 0<v.getD (IntKind.i64.wrap (j-1)).toNat 0)else false)&&(decide (0≤IntKind.i64.wrap (j-1))&&(decide (IntKind.i64.wrap (j-1)<(↑n:Int))&&(decide ((IntKind.i64.wrap (j-1)).toNat<v.length)&&(decide (0≤j)&&(decide (j<(↑n:Int))&&(decide (j.toNat<v.length)&&(decide (0≤j)&&(decide (j<(↑n:Int))&&(decide (j.toNat<v.length)&&(decide (0≤IntKind.i64.wrap (j-1))&&(decide (IntKind.i64.wrap (j-1)<(↑n:Int))&&((decide ((IntKind.i64.wrap (j-1)).toNat<(v.set j.toNat (v.getD (IntKind.i64.wrap (j-1)).toNat 0)).length))&&true))))))))))))))))))))))))))))),[],J166 n ((v.set j.toNat (v.getD (IntKind.i64.wrap (j-1)).toNat 0)).set (IntKind.i64.wrap (j-1)).toNat (v.getD j.toNat 0)) i (IntKind.i64.wrap (j-1))):=by kernel_rfl
theorem r166b_2 (n:Nat) (v:List Int) (i j:Int):roundR 1 (liveH f166 2) (liveB' f166 2) (evalC tt (ctOf T31) ([]) 1 100 (bodyAt 2 (codeOf f166)) (J166 n v i j) [(0,true),(0,false)])=
  some (.exit 2,(decide (j>0)&&(decide (j>0)&&(decide (j>0)&&(decide (0≤j)&&(decide (j<(↑n:Int))&&(decide (j>0)&&(decide (j.toNat<v.length)&&(decide (j>0)&&(decide (j>0)&&(decide (j>0)&&(decide (j>0)&&(decide (0≤IntKind.i64.wrap (j-1))&&(decide (IntKind.i64.wrap (j-1)<(↑n:Int))&&(decide (j>0)&&(decide ((IntKind.i64.wrap (j-1)).toNat<v.length)&&(decide (j>0)&&((!bif decide (j>0)then decide (v.getD j.toNat 0<v.getD (IntKind.i64.wrap (j-1)).toNat 0)else false)&&true))))))))))))))))),[],I166 n (v) i):=by kernel_rfl
theorem r166b_3 (n:Nat) (v:List Int) (i j:Int):roundR 1 (liveH f166 2) (liveB' f166 2) (evalC tt (ctOf T31) ([]) 1 100 (bodyAt 2 (codeOf f166)) (J166 n v i j) [(0,false)])=
  some (.exit 2,(!decide (j>0)&&(!decide (j>0)&&(!decide (j>0)&&(!decide (j>0)&&(!decide (j>0)&&(!decide (j>0)&&(!decide (j>0)&&(!decide (j>0)&&(!decide (j>0)&&(!decide (j>0)&&((!decide (j>0))&&true))))))))))),[],I166 n (v) i):=by kernel_rfl
theorem r166_1 (n:Nat) (v v':List Int) (i:Int):roundR 1 (liveH f166 0) (liveB' f166 0) (evalC tt (ctOf T31) ([(2,⟨liveH f166 2,J166 n v i i,.normal,I166 n v' i⟩)]) 1 100 (bodyAt 0 (codeOf f166)) (I166 n v i) [(0,true)])=
  some (.normal,((decide (i<(↑n:Int)))&&true),[J166 n v i i=J166 n v i i],I166 n (v') (IntKind.i64.wrap (i+1))):=by kernel_rfl
theorem r166_2 (n:Nat) (v v':List Int) (i:Int) (lcv:List (Nat×LC)):roundR 1 (liveH f166 0) (liveB' f166 0) (evalC tt (ctOf T31) (lcv) 1 100 (bodyAt 0 (codeOf f166)) (I166 n v i) [(0,false)])=
  some (.exit 0,((!decide (i<(↑n:Int)))&&true),[],X166 (v)):=by kernel_rfl
end Go.Proofs.YthapjdpkelihiaaGreat.Am
end
section
namespace Go.Proofs.YthapjdpkelihiaaGreat.Am
def swp (v:List Int) (j:Nat):List Int:=(v.set j (v.getD (j-1) 0)).set (j-1) (v.getD j 0)
def insS (j0 t:Nat) (v:List Int):List Int⊕List Int:=bif decide (v.getD (j0-t) 0<v.getD (j0-t-1) 0)then .inl (swp v (j0-t))else .inr v
def insL (j0:Nat) (v:List Int):List Int:=match runE (insS j0) j0 0 v with|.inl v=>v|.inr v=>v
def sortL (v:List Int):List Int:=runN (fun t v=>insL (t+1) v) (v.length-1) 0 v
theorem swp_len (v:List Int) (j:Nat):(swp v j).length=v.length:=by simp[swp]
theorem runE_inv {β γ:Type} {step:Nat→β→β⊕γ} (Inv:Nat→β→Prop) (Q:γ→Prop): ∀(f i:Nat) (b:β),Inv i b→
  (∀k b,i≤k→k<i+f→Inv k b→(∀b',step k b=.inl b'→Inv (k+1) b')∧ ∀c,step k b=.inr c→Q c)→match runE step f i b with|.inl b'=>Inv (i+f) b'|.inr c=>Q c
 |0,i,b,h,_=>h
 |f+1,i,b,h,hs=>by
  simp only[runE]
  have h0:=hs i b (Nat.le_refl _) (by omega) h
  cases hb:step i b with
  |inl b'=>
   have:=runE_inv (step:=step) Inv Q f (i+1) b' (h0.1 b' hb) (fun k b h1 h2=>hs k b (by omega) (by omega))
   rw[show i+(f+1)=i+1+f from by omega]
   exact this
  |inr c=>exact h0.2 c hb
theorem insL_len (j:Nat) (v:List Int):(insL j v).length=v.length:=by
 have:=runE_inv (step:=insS j) (fun _ b=>b.length=v.length) (fun c=>c.length=v.length) j 0 v rfl (fun k b _ _ hb=>by
  unfold insS
  cases decide (b.getD (j-k) 0<b.getD (j-k-1) 0)
  ·exact⟨fun b' h=>by simp at h,fun c h=>by simp at h;rw[←h];exact hb⟩
  ·exact⟨fun b' h=>by simp at h;rw[←h,swp_len];exact hb,fun c h=>by simp at h⟩)
 unfold insL
 revert this
 cases runE (insS j) j 0 v<;>exact fun h=>h
theorem sortL_len (v:List Int):(sortL v).length=v.length:=runN_inv0 (step:=fun t v=>insL (t+1) v) (fun _ b=>b.length=v.length) _ v rfl fun k b _ h=>by rw[insL_len];exact h
theorem l166b (v:List Int) (i j0:Nat) (hl:v.length≤274877906944) (hj:j0<v.length):
  Good Tryz.prog 1 (.block 2 (.loop (bodyAt 2 (codeOf f166)))) (J166 v.length v i j0) fun e t=>e=.normal∧t=I166 v.length (insL j0 v) i:=by
 have key:=Good.countE hT t31 hmix (m:=1) (id:=2) (body:=bodyAt 2 (codeOf f166)) j0 (fun _ b=>b.length=v.length) (fun t b=>J166 v.length b i (j0-t:Nat)) (fun b=>I166 v.length b i) (fun b=>I166 v.length b i) .normal (.inl rfl)
  (insS j0) (liveH f166 2) (liveB' f166 2) (fun _ _=>[]) (fun _ _ _ _=>LcOk.nil) (fun t b ht hb=> ?_) (fun b hb=> ?_) v rfl
 ·refine Good.mono key fun e t h=> ?_
  unfold insL
  revert h
  cases runE (insS j0) j0 0 v<;>exact fun h=>h
 ·unfold insS
  have hw:IntKind.i64.wrap (((j0-t:Nat):Int)-1)=((j0-t-1:Nat):Int):=by rw[wrap_mid (by omega) (by omega)];omega
  cases hq:decide (b.getD (j0-t) 0<b.getD (j0-t-1) 0)with
  |true=>
   refine .inl ⟨swp b (j0-t),rfl,by rw[swp_len];exact hb, ?_⟩
   have e:=r166b_1 v.length b i (j0-t:Nat)
   rw[hw,Int.toNat_natCast,Int.toNat_natCast]at e
   rw[show j0-(t+1)=j0-t-1 from by omega]
   refine⟨_,_,⟨_,_,e, ?_,by simp⟩⟩
   have h0:decide (((j0-t:Nat):Int)>0)=true:=decide_eq_true (by omega)
   simp only[h0,hq,cond_true,List.length_set,Bool.true_and,Bool.and_true,Bool.and_eq_true,decide_eq_true_eq]
   omega
  |false=>
   refine .inr ⟨b,rfl, ?_⟩
   have e:=r166b_2 v.length b i (j0-t:Nat)
   rw[hw,Int.toNat_natCast,Int.toNat_natCast]at e
   rw[if_pos rfl]
   refine⟨_,_,⟨_,_,e, ?_,by simp⟩⟩
   have h0:decide (((j0-t:Nat):Int)>0)=true:=decide_eq_true (by omega)
   simp only[h0,hq,cond_true,Bool.not_false,Bool.true_and,Bool.and_true,Bool.and_eq_true,decide_eq_true_eq]
   omega
 ·rw[Nat.sub_self]
  have e:=r166b_3 v.length b i (0:Nat)
  exact⟨_,_,⟨_,_,e,by simp,by simp⟩⟩
theorem b166_02:bodyAt 2 (bodyAt 0 (codeOf f166))=bodyAt 2 (codeOf f166):=by kernel_rfl
theorem l166 (v:List Int) (hl:v.length≤274877906944):
  Good Tryz.prog 1 (.block 0 (.loop (bodyAt 0 (codeOf f166)))) (I166 v.length v 1) fun e t=>e=.normal∧t=X166 (sortL v):=by
 refine Good.count hT t31 hmix (v.length-1) (fun _ b=>b.length=v.length) (fun t b=>I166 v.length b (1+t:Nat)) (fun b=>X166 b) (fun t b=>insL (t+1) b) (liveH f166 0) (liveB' f166 0)
  (fun t b=>[(2,⟨liveH f166 2,J166 v.length b (1+t:Nat) (1+t:Nat),.normal,I166 v.length (insL (t+1) b) (1+t:Nat)⟩)]) (fun t b ht hb=> ?_) (fun t b ht hb=>⟨by rw[insL_len];exact hb, ?_⟩) (fun b hb=> ?_) v rfl
 ·refine LcOk.cons (by kernel_rfl) ?_ LcOk.nil
  rw[b166_02]
  have:=l166b b (1+t) (1+t) (by omega) (by omega)
  rw[hb]at this
  rw[Nat.add_comm 1 t]at this⊢
  exact this
 ·have e:=r166_1 v.length b (insL (t+1) b) (1+t:Nat)
  rw[wrap_small (by omega) (by omega)]at e
  refine⟨_,_,⟨_,_,e, ?_,by simp⟩⟩
  simp only[Bool.and_true,decide_eq_true_eq]
  omega
 ·have e:=r166_2 v.length b [] (1+(v.length-1):Nat) []
  refine⟨_,_,⟨_,_,e, ?_,by simp⟩⟩
  simp only[Bool.and_true,Bool.not_eq_true',decide_eq_false_iff_not]
  omega
theorem x166_1 (v:List Int):evalF tt (ctOf T31) ([(0,⟨liveH f166 0,I166 v.length v 1,.normal,X166 (sortL v)⟩)]) 100 f166 [.c (.sl 0 0 v.length 1 none),.c (.int .i64 0),.c (.int .i64 v.length)] [.live (.ints .i64 v)] []=
  some ⟨.tup [],[.live (.ints .i64 (sortL v))],true,[I166 v.length v 1=I166 v.length v 1]⟩:=by kernel_rfl
def FFins:Model:=fun args h=>
 match args,h with
 |[.c (.sl 0 0 n 1 none),.c (.int .i64 0),.c (.int .i64 n2)],[.live (.ints .i64 v)]=>
  some (.tup [],[.live (.ints .i64 (sortL v))],[decide (v.length≤274877906944),decide (n=v.length),decide (n2=(v.length:Int))])
 |_,_=>none
theorem m166:ModelOk Tryz.prog 199 FFins:=by
 intro args h res h' o he ho
 unfold FFins at he
 split at he
 case h_2=>cases he
 rename_i n n2 v
 simp only[Option.some.injEq,Prod.mk.injEq]at he
 obtain⟨rfl,rfl,rfl⟩:=he
 simp only[List.mem_cons,List.not_mem_nil,or_false,forall_eq_or_imp,forall_eq,decide_eq_true_eq]at ho
 obtain⟨o1,o2,o3⟩:=ho
 subst o2 o3
 exact meets_of t31 (fn:=f166) (by kernel_rfl) (by kernel_rfl) (x166_1 v) (by simp) (by simp) (fun cc hc=>LcOk.cons (c:=cc) (by cases hc;kernel_rfl) (by cases hc;exact l166 v o1) LcOk.nil)
noncomputable def T32:List Entry:=[⟨199,[0],FFins⟩]++T31
theorem e32:EntriesOk Tryz.prog T32:=by
 refine EntriesOk.append ?_ e31
 intro e he
 simp only[List.mem_cons,List.not_mem_nil,or_false]at he
 subst he;exact m166
theorem t32:CtOk Tryz.prog (ctOf T32):=ctOf_ok e32
theorem x143_1 (v:List Int) (lim:Int):evalF tt (ctOf T32) ([]) 100 Tryz.f174 [.c (.sl 0 0 v.length 1 none),.c (.int .i64 0),.c (.int .i64 v.length),.c (.int .i64 lim)] [.live (.ints .i64 v)] [(0,true)]=
  some ⟨.tup [],[.live (.ints .i64 (sortL v))],(decide (IntKind.i64.wrap ((↑v.length:Int)-0)≤12)&&(decide (v.length≤274877906944)&&(decide (v.length=v.length)&&((decide ((↑v.length:Int)=(↑v.length:Int)))&&true)))),[]⟩:=by kernel_rfl
def FFpdq:Model:=fun args h=>
 match args,h with
 |[.c (.sl 0 0 n 1 none),.c (.int .i64 0),.c (.int .i64 n2),.c (.int .i64 lim)],[.live (.ints .i64 v)]=>
  some (.tup [],[.live (.ints .i64 (sortL v))],[decide (v.length≤12),decide (n=v.length),decide (n2=(v.length:Int))])
 |_,_=>none
theorem m143:ModelOk Tryz.prog 174 FFpdq:=by
 intro args h res h' o he ho
 unfold FFpdq at he
 split at he
 case h_2=>cases he
 rename_i n n2 lim v
 simp only[Option.some.injEq,Prod.mk.injEq]at he
 obtain⟨rfl,rfl,rfl⟩:=he
 simp only[List.mem_cons,List.not_mem_nil,or_false,forall_eq_or_imp,forall_eq,decide_eq_true_eq]at ho
 obtain⟨o1,o2,o3⟩:=ho
 subst o2 o3
 exact meets_of t32 (by kernel_rfl) (by kernel_rfl) (x143_1 v lim) (by
  rw[Int.sub_zero,wrap_small (by omega) (by omega)]
  simp;omega) (by simp) (fun c _=>LcOk.nil)
def lenB (n:Int):Int:=[0,1,2,2,3,3,3,3,4].getD n.toNat 0
def FFlen64:Model:=fun args h=>
 match args,h with
 |[.c (.int .u64 n)],[]=>
  some (.c (.int .i64 (lenB n)),[],[bet n 0 8])
 |_,_=>none
theorem m176:ModelOk Tryz.prog 209 FFlen64:=by
 intro args h res h' o he ho
 unfold FFlen64 at he
 split at he
 case h_2=>cases he
 rename_i n
 simp only[Option.some.injEq,Prod.mk.injEq]at he
 obtain⟨rfl,rfl,rfl⟩:=he
 simp only[List.mem_cons,List.not_mem_nil,or_false,forall_eq_or_imp,forall_eq,decide_eq_true_eq]at ho
 have o1:=ho
 have hb:=bet_iff.1 o1
 have all:allK (fun k=>givesInt (evalF tt (ctOf T32) [] 1000 Tryz.f209 [.c (.int .u64 (k:Nat))] [] []) (lenB (k:Nat))) 9=true:=by kernel_rfl
 have e:=givesInt_spec (allK_spec all n.toNat (by omega))
 rw[show((n.toNat:Nat):Int)=n from by omega]at e
 exact meets_of t32 (by kernel_rfl) (by kernel_rfl) e rfl (by simp) (fun c _=>LcOk.nil)
noncomputable def T33:List Entry:=[⟨174,[0],FFpdq⟩,⟨209,[],FFlen64⟩]++T32
theorem e33:EntriesOk Tryz.prog T33:=by
 refine EntriesOk.append ?_ e32
 intro e he
 simp only[List.mem_cons,List.not_mem_nil,or_false]at he
 rcases he with rfl|rfl
 ·exact m143
 ·exact m176
theorem t33:CtOk Tryz.prog (ctOf T33):=ctOf_ok e33
theorem lenM:ModelOk Tryz.prog 175 (inlM tt (ctOf T33) Tryz.f175 []):=inlM_ok hT t33 hmix [] (by kernel_rfl) (by kernel_rfl)
noncomputable def T34:List Entry:=[⟨175,[],inlM tt (ctOf T33) Tryz.f175 []⟩]++T33
theorem e34:EntriesOk Tryz.prog T34:=by
 refine EntriesOk.append ?_ e33
 intro e he
 simp only[List.mem_cons,List.not_mem_nil,or_false]at he
 subst he;exact lenM
theorem t34:CtOk Tryz.prog (ctOf T34):=ctOf_ok e34
theorem x113_1 (v:List Int):evalF tt (ctOf T34) ([]) 100 Tryz.f129 [.c (.sl 0 0 v.length 1 none)] [.live (.ints .i64 v)] []=
  some ⟨.tup [],[.live (.ints .i64 (sortL v))],((bet (IntKind.u64.wrap (↑v.length:Int)) 0 8&&true)&&(decide (v.length≤12)&&(decide (v.length=v.length)&&((decide ((↑v.length:Int)=(↑v.length:Int)))&&true)))),[]⟩:=by kernel_rfl
end Go.Proofs.YthapjdpkelihiaaGreat.Am
end
section
namespace Go.Proofs.YthapjdpkelihiaaGreat.Am
def FFsort:Model:=fun args h=>
 match args,h with
 |[.c (.sl 0 0 n 1 none)],[.live (.ints .i64 v)]=>
  some (.tup [],[.live (.ints .i64 (sortL v))],[decide (v.length≤8),decide (n=v.length)])
 |_,_=>none
theorem m113:ModelOk Tryz.prog 129 FFsort:=by
 intro args h res h' o he ho
 unfold FFsort at he
 split at he
 case h_2=>cases he
 rename_i n v
 simp only[Option.some.injEq,Prod.mk.injEq]at he
 obtain⟨rfl,rfl,rfl⟩:=he
 simp only[List.mem_cons,List.not_mem_nil,or_false,forall_eq_or_imp,forall_eq,decide_eq_true_eq]at ho
 obtain⟨o1,o2⟩:=ho
 subst o2
 exact meets_of t34 (by kernel_rfl) (by kernel_rfl) (x113_1 v) (by
  have hw:IntKind.u64.wrap (v.length:Int)=v.length:=by simp[IntKind.wrap,IntKind.bits,IntKind.signed];omega
  rw[hw]
  simp[bet];omega) (by simp) (fun c _=>LcOk.nil)
def revS (n t:Nat) (v:List Int):List Int:=(v.set t (v.getD (n-1-t) 0)).set (n-1-t) (v.getD t 0)
def revL (v:List Int):List Int:=runN (revS v.length) (v.length/2) 0 v
noncomputable abbrev f114:=Tryz.f130
noncomputable def I114 (n:Nat) (v:List Int) (i j:Int):St:=stOf f114.ntmps [(0,.c (.sl 0 0 n 1 none)),(2,.c (.int .i64 i)),(3,.c (.int .i64 j))] [.live (.ints .i64 v)]
noncomputable def X114 (v:List Int):St:=stOf f114.ntmps [] [.live (.ints .i64 v)]
theorem r114_1 (n:Nat) (v:List Int) (i j:Int):roundR 1 (liveH f114 0) (liveB' f114 0) (evalC tt (ctOf T34) ([]) 1 100 (bodyAt 0 (codeOf f114)) (I114 n v i j) [(0,true)])=
  some (.normal,(decide (i<j)&&(decide (0≤j)&&(decide (j<(↑n:Int))&&(decide (j.toNat<v.length)&&(decide (0≤i)&&(decide (i<(↑n:Int))&&(decide (i.toNat<v.length)&&(decide (0≤i)&&(decide (i<(↑n:Int))&&(decide (i.toNat<v.length)&&(decide (0≤j)&&(decide (j<(↑n:Int))&&((decide (j.toNat<(v.set i.toNat (v.getD j.toNat 0)).length))&&true))))))))))))),[],I114 n ((v.set i.toNat (v.getD j.toNat 0)).set j.toNat (v.getD i.toNat 0)) (IntKind.i64.wrap (i+1)) (IntKind.i64.wrap (j-1))):=by kernel_rfl
theorem r114_2 (n:Nat) (v:List Int) (i j:Int):roundR 1 (liveH f114 0) (liveB' f114 0) (evalC tt (ctOf T34) ([]) 1 100 (bodyAt 0 (codeOf f114)) (I114 n v i j) [(0,false)])=
  some (.exit 0,((!decide (i<j))&&true),[],X114 (v)):=by kernel_rfl
theorem l114 (v:List Int) (hl:v.length≤274877906944):
  Good Tryz.prog 1 (.block 0 (.loop (bodyAt 0 (codeOf f114)))) (I114 v.length v 0 ((v.length:Int)-1)) fun e t=>e=.normal∧t=X114 (revL v):=by
 have key:=Good.count hT t34 hmix (m:=1) (id:=0) (body:=bodyAt 0 (codeOf f114)) (v.length/2) (fun _ b=>b.length=v.length) (fun t b=>I114 v.length b t ((v.length:Int)-1-t)) (fun b=>X114 b) (revS v.length) (liveH f114 0) (liveB' f114 0)
  (fun _ _=>[]) (fun _ _ _ _=>LcOk.nil) (fun t b ht hb=>⟨by simp[revS,hb], ?_⟩) (fun b hb=> ?_) v rfl
 ·rw[Int.natCast_zero,Int.sub_zero]at key
  exact key
 ·have e:=r114_1 v.length b t ((v.length:Int)-1-t)
  rw[wrap_small (i:=(t:Int)+1) (by omega) (by omega),wrap_mid (i:=(v.length:Int)-1-t-1) (by omega) (by omega),Int.toNat_natCast,show((v.length:Int)-1-t).toNat=v.length-1-t from by omega]at e
  rw[show(v.length:Int)-1-((t+1:Nat):Int)=(v.length:Int)-1-t-1 from by omega]
  refine⟨_,_,⟨_,_,e, ?_,by simp⟩⟩
  simp only[List.length_set,Bool.and_true,Bool.and_eq_true,decide_eq_true_eq]
  omega
 ·have e:=r114_2 v.length b (v.length/2:Nat) ((v.length:Int)-1-(v.length/2:Nat))
  refine⟨_,_,⟨_,_,e, ?_,by simp⟩⟩
  simp only[Bool.and_true,Bool.not_eq_true',decide_eq_false_iff_not]
  omega
theorem x114_1 (v:List Int):evalF tt (ctOf T34) ([(0,⟨liveH f114 0,I114 v.length v 0 (IntKind.i64.wrap ((v.length:Int)-1)),.normal,X114 (revL v)⟩)]) 100 f114 [.c (.sl 0 0 v.length 1 none)] [.live (.ints .i64 v)] []=
  some ⟨.tup [],[.live (.ints .i64 (revL v))],true,[I114 v.length v 0 (IntKind.i64.wrap ((v.length:Int)-1))=I114 v.length v 0 (IntKind.i64.wrap ((v.length:Int)-1))]⟩:=by kernel_rfl
def FFrev:Model:=fun args h=>
 match args,h with
 |[.c (.sl 0 0 n 1 none)],[.live (.ints .i64 v)]=>
  some (.tup [],[.live (.ints .i64 (revL v))],[decide (v.length≤274877906944),decide (n=v.length)])
 |_,_=>none
theorem m114:ModelOk Tryz.prog 130 FFrev:=by
 intro args h res h' o he ho
 unfold FFrev at he
 split at he
 case h_2=>cases he
 rename_i n v
 simp only[Option.some.injEq,Prod.mk.injEq]at he
 obtain⟨rfl,rfl,rfl⟩:=he
 simp only[List.mem_cons,List.not_mem_nil,or_false,forall_eq_or_imp,forall_eq,decide_eq_true_eq]at ho
 obtain⟨o1,o2⟩:=ho
 subst o2
 have g:=l114 v o1
 have e:=x114_1 v
 rw[wrap_mid (by omega) (by omega)]at e
 exact meets_of t34 (fn:=f114) (by kernel_rfl) (by kernel_rfl) e (by simp) (by simp) (fun cc hc=>LcOk.cons (c:=cc) (by cases hc;kernel_rfl) (by cases hc;exact g) LcOk.nil)
noncomputable abbrev f115:=Tryz.f131
noncomputable def I115 (v:List Int) (k:Int):St:=stOf f115.ntmps [(0,.c (.sl 0 0 v.length 1 none)),(3,.c (.int .i64 k))] [.live (.ints .i64 v)]
noncomputable def J115 (n k0:Nat) (v:List Int) (k k2:Int):St:=
 stOf f115.ntmps [(0,.c (.sl 0 0 n 1 none)),(3,.c (.int .i64 k)),(4,.c (.sl 0 k0 (n-k0) 1 none)),(5,.c (.int .i64 k2))] [.live (.ints .i64 v)]
noncomputable def Y115 (n:Nat) (v:List Int) (k:Int):St:=stOf f115.ntmps [(0,.c (.sl 0 0 n 1 none)),(3,.c (.int .i64 k))] [.live (.ints .i64 v)]
theorem r115b_1 (n k0:Nat) (v:List Int) (k k2:Int):roundR 1 (liveH f115 2) (liveB' f115 2) (evalC tt (ctOf T34) ([]) 1 100 (bodyAt 2 (codeOf f115)) (J115 n k0 v k k2) [(0,true),(0,true)])=
  some (.normal,(decide (k2<(↑(n-k0):Int))&&(decide (0≤k2)&&(decide (k2<(↑(n-k0):Int))&&(decide (k2.toNat+k0<v.length)&&(decide (0≤IntKind.i64.wrap (k2-1))&&(decide (IntKind.i64.wrap (k2-1)<(↑(n-k0):Int))&&(decide ((IntKind.i64.wrap (k2-1)).toNat+k0<v.length)&&((v.getD (k2.toNat+k0) 0 !=v.getD ((IntKind.i64.wrap (k2-1)).toNat+k0) 0)&&(decide (0≤k2)&&(decide (k2<(↑(n-k0):Int))&&(decide (k2.toNat+k0<v.length)&&(decide (0≤k)&&(decide (k<(↑n:Int))&&((decide (k.toNat<v.length))&&true)))))))))))))),[],J115 n k0 (v.set k.toNat (v.getD (k2.toNat+k0) 0)) (IntKind.i64.wrap (k+1)) (IntKind.i64.wrap (k2+1))):=by kernel_rfl
theorem r115b_2 (n k0:Nat) (v:List Int) (k k2:Int):roundR 1 (liveH f115 2) (liveB' f115 2) (evalC tt (ctOf T34) ([]) 1 100 (bodyAt 2 (codeOf f115)) (J115 n k0 v k k2) [(0,true),(0,false)])=
  some (.normal,(decide (k2<(↑(n-k0):Int))&&(decide (0≤k2)&&(decide (k2<(↑(n-k0):Int))&&(decide (k2.toNat+k0<v.length)&&(decide (0≤IntKind.i64.wrap (k2-1))&&(decide (IntKind.i64.wrap (k2-1)<(↑(n-k0):Int))&&(decide ((IntKind.i64.wrap (k2-1)).toNat+k0<v.length)&&((!v.getD (k2.toNat+k0) 0 !=v.getD ((IntKind.i64.wrap (k2-1)).toNat+k0) 0)&&true)))))))),[],J115 n k0 (v) (k) (IntKind.i64.wrap (k2+1))):=by kernel_rfl
theorem r115b_3 (n k0:Nat) (v:List Int) (k k2:Int):roundR 1 (liveH f115 2) (liveB' f115 2) (evalC tt (ctOf T34) ([]) 1 100 (bodyAt 2 (codeOf f115)) (J115 n k0 v k k2) [(0,false)])=
  some (.exit 2,((!decide (k2<(↑(n-k0):Int)))&&true),[],Y115 n (v) (k)):=by kernel_rfl
noncomputable def X115 (n:Nat) (v:List Int):St:=stOf f115.ntmps [(0,.c (.sl 0 0 n 1 none))] [.live (.ints .i64 v)]
noncomputable def Z115 (n:Nat) (v:List Int) (k:Nat):St:=
 stOf f115.ntmps [(0,.c (.sl 0 0 n 1 none)),(2,.c (.sl 0 0 k 1 none))] [.live (.ints .i64 (v.take k++(List.replicate (n-k) 0++v.drop (k+(n-k)))))]
theorem r115_1 (v v':List Int) (k k0:Nat):roundR 1 (liveH f115 0) (liveB' f115 0) (evalC tt (ctOf T34) ([(2,⟨liveH f115 2,J115 v.length k0 v k0 1,.normal,Y115 v.length v' k⟩)]) 1 100 (bodyAt 0 (codeOf f115)) (I115 v k0) [(0,true),(0,true)])=
  some (.ret,(decide ((↑k0:Int)<(↑v.length:Int))&&(decide ((↑k0:Int)<(↑v.length:Int))&&(decide ((↑k0:Int).toNat<v.length)&&(decide (0≤IntKind.i64.wrap ((↑k0:Int)-1))&&(decide (IntKind.i64.wrap ((↑k0:Int)-1)<(↑v.length:Int))&&(decide ((IntKind.i64.wrap ((↑k0:Int)-1)).toNat<v.length)&&((v.getD (↑k0:Int).toNat 0==v.getD (IntKind.i64.wrap ((↑k0:Int)-1)).toNat 0)&&(decide ((↑k0:Int)≤(↑v.length:Int))&&(decide ((↑k:Int)≤(↑v.length:Int))&&(decide ((↑k:Int).toNat+(v.length-(↑k:Int).toNat)≤v'.length)&&((decide ((↑k:Int)≤(↑v.length:Int)))&&true))))))))))),[J115 v.length k0 v k0 1=J115 v.length k0 v k0 1],Z115 v.length v' k):=by kernel_rfl
theorem r115_3 (v v':List Int) (k k0:Nat) (lcv:List (Nat×LC)):roundR 1 (liveH f115 0) (liveB' f115 0) (evalC tt (ctOf T34) (lcv) 1 100 (bodyAt 0 (codeOf f115)) (I115 v k0) [(0,false)])=
  some (.exit 0,((!decide ((↑k0:Int)<(↑v.length:Int)))&&true),[],X115 v.length v):=by kernel_rfl
theorem r115n_2 (v:List Int) (k0:Nat):roundR 1 (liveH f115 0) (liveB' f115 0) (evalC tt (ctOf T34) ([]) 1 100 (bodyAt 0 (codeOf f115)) (I115 v k0) [(0,true),(0,false)])=
  some (.normal,(decide ((↑k0:Int)<(↑v.length:Int))&&(decide ((↑k0:Int)<(↑v.length:Int))&&(decide ((↑k0:Int).toNat<v.length)&&(decide (0≤IntKind.i64.wrap ((↑k0:Int)-1))&&(decide (IntKind.i64.wrap ((↑k0:Int)-1)<(↑v.length:Int))&&(decide ((IntKind.i64.wrap ((↑k0:Int)-1)).toNat<v.length)&&((!v.getD (↑k0:Int).toNat 0==v.getD (IntKind.i64.wrap ((↑k0:Int)-1)).toNat 0)&&true))))))),[],I115 v (IntKind.i64.wrap ((k0:Int)+1))):=by kernel_rfl
def compT (v:List Int):Nat→List Int
 |0=>[]
 |n+1=>bif Nat.beq n 0||v.getD n 0 !=v.getD (n-1) 0 then compT v n++[v.getD n 0]else compT v n
def compL (v:List Int):List Int:=compT v v.length
theorem compT_all {v:List Int}: ∀(n:Nat),n≤v.length→(∀k,1≤k→k<n→(v.getD k 0==v.getD (k-1) 0)=false)→compT v n=v.take n
 |0,_,_=>by simp[compT]
 |n+1,hn,h=>by
  simp only[compT]
  rw[compT_all n (by omega) (fun k h1 h2=>h k h1 (by omega)),take_snoc hn]
  have:(Nat.beq n 0||v.getD n 0 !=v.getD (n-1) 0)=true:=by
   by_cases h0:n=0
   ·subst h0;rfl
   ·have:=h n (by omega) (by omega)
    rw[bne,this];simp
  rw[this];rfl
def cmpS (k0 t:Nat) (v0:List Int) (s:List Int×Nat):List Int×Nat:=bif v0.getD (k0+1+t) 0 !=v0.getD (k0+t) 0 then(s.1.set s.2 (v0.getD (k0+1+t) 0),s.2+1)else s
def CmpI (v:List Int) (k0 t:Nat) (s:List Int×Nat):Prop:=s.1.length=v.length∧s.2≤k0+t∧(∀q,s.2≤q→s.1.getD q 0=v.getD q 0)∧s.1.take s.2=compT v (k0+1+t)
theorem cmpS_inv {v:List Int} {k0 t:Nat} {s:List Int×Nat} (h:CmpI v k0 t s) (ht:k0+1+t<v.length):CmpI v k0 (t+1) (cmpS k0 t v s):=by
 obtain⟨h1,h2,h3,h4⟩:=h
 unfold cmpS
 have hc:compT v (k0+1+(t+1))=bif v.getD (k0+1+t) 0 !=v.getD (k0+t) 0 then compT v (k0+1+t)++[v.getD (k0+1+t) 0]else compT v (k0+1+t):=by
  rw[show k0+1+(t+1)=(k0+1+t)+1 from by omega]
  simp only[compT]
  rw[show k0+1+t-1=k0+t from by omega]
  have:Nat.beq (k0+1+t) 0=false:=by
   cases h:Nat.beq _ 0 with
   |false=>rfl
   |true=>have:=Nat.eq_of_beq_eq_true h;omega
  rw[this,Bool.false_or]
 unfold CmpI
 rw[hc]
 cases hq:v.getD (k0+1+t) 0 !=v.getD (k0+t) 0 with
 |true=>
  simp only[cond_true]
  refine⟨by simp[h1],by omega,fun q hq'=> ?_, ?_⟩
  ·rw[getD_set,if_neg (by omega)];exact h3 q (by omega)
  ·rw[take_snoc (by rw[List.length_set];omega),List.take_set,List.set_eq_of_length_le (by rw[List.length_take];omega),getD_set,if_pos ⟨rfl,by omega⟩,h4]
 |false=>
  simp only[cond_false]
  exact⟨h1,by omega,h3,h4⟩
theorem cmpI_init {v:List Int} {k0:Nat} (h0:1≤k0) (h1:k0<v.length) (he:(v.getD k0 0==v.getD (k0-1) 0)=true) (hd: ∀k,1≤k→k<k0→(v.getD k 0==v.getD (k-1) 0)=false):CmpI v k0 0 (v,k0):=by
 refine⟨rfl,by dsimp only;omega,fun q _=>rfl, ?_⟩
 dsimp only
 rw[Nat.add_zero]
 simp only[compT]
 have hb:Nat.beq k0 0=false:=by
   cases h:Nat.beq _ 0 with
   |false=>rfl
   |true=>have:=Nat.eq_of_beq_eq_true h;omega
 rw[hb,Bool.false_or,bne,he]
 exact(compT_all k0 (by omega) hd).symm
theorem l115b (v:List Int) (k0:Nat) (hl:v.length≤274877906944) (h1:k0<v.length) (hi:CmpI v k0 0 (v,k0)):
  Good Tryz.prog 1 (.block 2 (.loop (bodyAt 2 (codeOf f115)))) (J115 v.length k0 v k0 1) fun e t=>e=.normal∧
   t=Y115 v.length (runN (fun t s=>cmpS k0 t v s) (v.length-k0-1) 0 (v,k0)).1 (runN (fun t s=>cmpS k0 t v s) (v.length-k0-1) 0 (v,k0)).2:=by
 refine Good.count hT t34 hmix (m:=1) (id:=2) (body:=bodyAt 2 (codeOf f115)) (v.length-k0-1) (CmpI v k0) (fun t s=>J115 v.length k0 s.1 s.2 (1+t:Nat)) (fun s=>Y115 v.length s.1 s.2) (fun t s=>cmpS k0 t v s) (liveH f115 2) (liveB' f115 2)
  (fun _ _=>[]) (fun _ _ _ _=>LcOk.nil) (fun t s ht h=>⟨cmpS_inv h (by omega), ?_⟩) (fun s h=> ?_) (v,k0) hi
 ·obtain⟨d1,d2,d3,d4⟩:=h
  have hw:IntKind.i64.wrap (((1+t:Nat):Int)-1)=(t:Nat):=by rw[wrap_mid (by omega) (by omega)];omega
  have e1:=d3 (1+t+k0) (by omega)
  have e2:=d3 (t+k0) (by omega)
  unfold cmpS
  rw[show k0+1+t=1+t+k0 from by omega,show k0+t=t+k0 from by omega]
  cases hq:v.getD (1+t+k0) 0 !=v.getD (t+k0) 0 with
  |true=>
   have e:=r115b_1 v.length k0 s.1 s.2 (1+t:Nat)
   rw[hw,wrap_small (i:=(s.2:Int)+1) (by omega) (by omega),wrap_small (i:=((1+t:Nat):Int)+1) (by omega) (by omega),Int.toNat_natCast,Int.toNat_natCast,Int.toNat_natCast,e1,e2]at e
   refine⟨_,_,⟨_,_,e, ?_,by simp⟩⟩
   simp only[hq,Bool.true_and,Bool.and_true,Bool.and_eq_true,decide_eq_true_eq]
   omega
  |false=>
   have e:=r115b_2 v.length k0 s.1 s.2 (1+t:Nat)
   rw[hw,wrap_small (i:=((1+t:Nat):Int)+1) (by omega) (by omega),Int.toNat_natCast,Int.toNat_natCast,e1,e2]at e
   refine⟨_,_,⟨_,_,e, ?_,by simp⟩⟩
   simp only[hq,Bool.not_false,Bool.true_and,Bool.and_true,Bool.and_eq_true,decide_eq_true_eq]
   omega
 ·have e:=r115b_3 v.length k0 s.1 s.2 (1+(v.length-k0-1):Nat)
  refine⟨_,_,⟨_,_,e, ?_,by simp⟩⟩
  simp only[Bool.and_true,Bool.not_eq_true',decide_eq_false_iff_not]
  omega
theorem b115_02:bodyAt 2 (bodyAt 0 (codeOf f115))=bodyAt 2 (codeOf f115):=by kernel_rfl
def cmp0 (v:List Int) (k0:Nat):List Int×Nat:=runN (fun t s=>cmpS k0 t v s) (v.length-k0-1) 0 (v,k0)
def cmpE (v:List Int) (t:Nat) (_:Unit):Unit⊕(List Int×Nat):=bif v.getD (1+t) 0==v.getD t 0 then .inr (cmp0 v (1+t))else .inl ()
theorem l115 (v:List Int) (hl:v.length≤274877906944):
  Good Tryz.prog 1 (.block 0 (.loop (bodyAt 0 (codeOf f115)))) (I115 v 1) fun e t=>match runE (cmpE v) (v.length-1) 0 ()with
   |.inl _=>e=.normal∧t=X115 v.length v
   |.inr c=>e=.ret∧t=Z115 v.length c.1 c.2:=by
 have key:=Good.countE hT t34 hmix (m:=1) (id:=0) (body:=bodyAt 0 (codeOf f115)) (v.length-1) (fun t _=> ∀k,1≤k→k<1+t→(v.getD k 0==v.getD (k-1) 0)=false) (fun t _=>I115 v (1+t:Nat)) (fun _=>X115 v.length v)
  (fun c=>Z115 v.length c.1 c.2) .ret (.inr rfl) (cmpE v) (liveH f115 0) (liveB' f115 0)
  (fun t _=>bif v.getD (1+t) 0==v.getD t 0 then [(2,⟨liveH f115 2,J115 v.length (1+t) v (1+t:Nat) 1,.normal,Y115 v.length (cmp0 v (1+t)).1 (cmp0 v (1+t)).2⟩)]else []) (fun t _ ht h=> ?_) (fun t _ ht h=> ?_) (fun _ h=> ?_) () (fun k h1 h2=>by omega)
 ·refine Good.mono key fun e t h=> ?_
  revert h
  cases runE (cmpE v) (v.length-1) 0 ()<;>exact fun h=>h
 ·cases hq:v.getD (1+t) 0==v.getD t 0 with
  |true=>exact LcOk.cons (by kernel_rfl) (by rw[b115_02];exact l115b v (1+t) hl (by omega) (cmpI_init (by omega) (by omega) (by rw[show 1+t-1=t from by omega];exact hq) h)) LcOk.nil
  |false=>exact LcOk.nil
 ·have hw:IntKind.i64.wrap (((1+t:Nat):Int)-1)=(t:Nat):=by rw[wrap_mid (by omega) (by omega)];omega
  unfold cmpE
  cases hq:v.getD (1+t) 0==v.getD t 0 with
  |true=>
   refine .inr ⟨_,rfl, ?_⟩
   have hi:=cmpI_init (v:=v) (k0:=1+t) (by omega) (by omega) (by rw[show 1+t-1=t from by omega];exact hq) h
   have fin:=runN_inv0 (step:=fun u s=>cmpS (1+t) u v s) (CmpI v (1+t)) (v.length-(1+t)-1) (v,1+t) hi fun u s hu h=>cmpS_inv h (by omega)
   have e:=r115_1 v (cmp0 v (1+t)).1 (cmp0 v (1+t)).2 (1+t)
   rw[hw,Int.toNat_natCast,Int.toNat_natCast]at e
   obtain⟨f1,f2,f3,f4⟩:=fin
   refine⟨_,_,⟨_,_,e, ?_,by simp⟩⟩
   have g1:(cmp0 v (1+t)).1.length=v.length:=f1
   have g2:(cmp0 v (1+t)).2≤1+t+(v.length-(1+t)-1):=f2
   simp only[hq,Int.toNat_natCast,Bool.true_and,Bool.and_true,Bool.and_eq_true,decide_eq_true_eq]
   omega
  |false=>
   refine .inl ⟨(),rfl,fun k h1 h2=> ?_, ?_⟩
   ·by_cases e:k=1+t
    ·subst e;rw[show 1+t-1=t from by omega];exact hq
    ·exact h k h1 (by omega)
   ·have e:=r115n_2 v (1+t)
    rw[hw,Int.toNat_natCast,Int.toNat_natCast,wrap_small (by omega) (by omega)]at e
    refine⟨_,_,⟨_,_,e, ?_,by simp⟩⟩
    simp only[hq,Bool.not_false,Bool.true_and,Bool.and_true,Bool.and_eq_true,decide_eq_true_eq]
    omega
 ·have e:=r115_3 v [] 0 (1+(v.length-1)) []
  refine⟨_,_,⟨_,_,e, ?_,by simp⟩⟩
  simp only[Bool.and_true,Bool.not_eq_true',decide_eq_false_iff_not]
  omega
end Go.Proofs.YthapjdpkelihiaaGreat.Am
end
section
namespace Go.Proofs.YthapjdpkelihiaaGreat.Am
theorem x115s_1 (v:List Int):evalF tt (ctOf T34) ([]) 100 f115 [.c (.sl 0 0 v.length 1 none)] [.live (.ints .i64 v)] [(0,true)]=
  some ⟨.c (.sl 0 0 v.length 1 none),[.live (.ints .i64 v)],((decide ((↑v.length:Int)<2))&&true),[]⟩:=by kernel_rfl
theorem x115x_2 (v:List Int):evalF tt (ctOf T34) ([(0,⟨liveH f115 0,I115 v 1,.normal,X115 v.length v⟩)]) 100 f115 [.c (.sl 0 0 v.length 1 none)] [.live (.ints .i64 v)] [(0,false)]=
  some ⟨.c (.sl 0 0 v.length 1 none),[.live (.ints .i64 v)],((!decide ((↑v.length:Int)<2))&&true),[I115 v 1=I115 v 1]⟩:=by kernel_rfl
theorem x115z_2 (v v':List Int) (k:Nat):evalF tt (ctOf T34) ([(0,⟨liveH f115 0,I115 v 1,.ret,Z115 v.length v' k⟩)]) 100 f115 [.c (.sl 0 0 v.length 1 none)] [.live (.ints .i64 v)] [(0,false)]=
  some ⟨.c (.sl 0 0 k 1 none),[.live (.ints .i64 (List.take k v'++(List.replicate (v.length-k) 0++List.drop (k+(v.length-k)) v')))],((!decide ((↑v.length:Int)<2))&&true),[I115 v 1=I115 v 1]⟩:=by kernel_rfl
def FFcompact:Model:=fun args h=>
 match args,h with
 |[.c (.sl 0 0 n 1 none)],[.live (.ints .i64 v)]=>
  some (.c (.sl 0 0 (compL v).length 1 none),[.live (.ints .i64 (compL v))],[decide (v.length≤274877906944),decide (n=v.length)])
 |_,_=>none
theorem cmp_spec (v:List Int):match runE (cmpE v) (v.length-1) 0 ()with
  |.inl _=>compL v=v
  |.inr c=>c.1.length=v.length∧c.2≤v.length∧c.1.take c.2=compL v:=by
 have:=runE_inv (step:=cmpE v) (fun t _=> ∀k,1≤k→k<1+t→(v.getD k 0==v.getD (k-1) 0)=false) (fun c=>c.1.length=v.length∧c.2≤v.length∧c.1.take c.2=compL v) (v.length-1) 0 ()
  (fun k h1 h2=>by omega) (fun t _ h1 h2 h=> ?_)
 ·revert this
  cases runE (cmpE v) (v.length-1) 0 ()with
  |inl u=>
   intro h
   have:=compT_all (v:=v) v.length (Nat.le_refl _) (fun k h1 h2=>h k h1 (by omega))
   rw[List.take_length]at this;exact this
  |inr c=>exact fun h=>h
 ·unfold cmpE
  cases hq:v.getD (1+t) 0==v.getD t 0 with
  |true=>
   refine⟨fun b' hb=>by simp at hb,fun c hc=> ?_⟩
   simp only[cond_true,Sum.inr.injEq]at hc
   subst hc
   have hi:=cmpI_init (v:=v) (k0:=1+t) (by omega) (by omega) (by rw[show 1+t-1=t from by omega];exact hq) h
   have fin:=runN_inv0 (step:=fun u s=>cmpS (1+t) u v s) (CmpI v (1+t)) (v.length-(1+t)-1) (v,1+t) hi fun u s hu h=>cmpS_inv h (by omega)
   obtain⟨f1,f2,f3,f4⟩:=fin
   refine⟨f1, ?_, ?_⟩
   ·have g2:(cmp0 v (1+t)).2≤1+t+(v.length-(1+t)-1):=f2
    omega
   ·rw[show 1+t+1+(v.length-(1+t)-1)=v.length from by omega]at f4
    exact f4
  |false=>
   refine⟨fun b' _ k h3 h4=> ?_,fun c hc=>by simp at hc⟩
   by_cases e:k=1+t
   ·subst e;rw[show 1+t-1=t from by omega];exact hq
   ·exact h k h3 (by omega)
theorem m115:ModelOk Tryz.prog 131 FFcompact:=by
 intro args h res h' o he ho
 unfold FFcompact at he
 split at he
 case h_2=>cases he
 rename_i n v
 simp only[Option.some.injEq,Prod.mk.injEq]at he
 obtain⟨rfl,rfl,rfl⟩:=he
 simp only[List.mem_cons,List.not_mem_nil,or_false,forall_eq_or_imp,forall_eq,decide_eq_true_eq]at ho
 obtain⟨o1,o2⟩:=ho
 subst o2
 by_cases hs:(v.length:Int)<2
 ·have hc:compL v=v:=by
   have:=compT_all (v:=v) v.length (Nat.le_refl _) (fun k h1 h2=>by omega)
   rw[List.take_length]at this;exact this
  rw[hc]
  exact meets_of t34 (fn:=f115) (by kernel_rfl) (by kernel_rfl) (x115s_1 v) (by simp[hs]) (by simp) (fun c _=>LcOk.nil)
 ·have g:=l115 v o1
  have sp:=cmp_spec v
  cases hr:runE (cmpE v) (v.length-1) 0 ()with
  |inl u=>
   rw[hr]at g sp
   dsimp only at g sp
   rw[sp]
   exact meets_of t34 (fn:=f115) (by kernel_rfl) (by kernel_rfl) (x115x_2 v) (by simp[hs]) (by simp) (fun cc hc=>LcOk.cons (c:=cc) (by cases hc;kernel_rfl) (by cases hc;exact g) LcOk.nil)
  |inr c=>
   rw[hr]at g sp
   dsimp only at g sp
   obtain⟨s1,s2,s3⟩:=sp
   have mm:=meets_of (f:=131) t34 (fn:=f115) (by kernel_rfl) (by kernel_rfl) (x115z_2 v c.1 c.2) (by simp[hs]) (by simp) (fun cc hc=>LcOk.cons (c:=cc) (by cases hc;kernel_rfl) (by cases hc;exact g) LcOk.nil)
   have hlen:(compL v).length=c.2:=by rw[←s3,List.length_take];omega
   rw[hlen]
   refine mm.slots ⟨?_,trivial⟩
   have h6:(List.take c.2 c.1++(List.replicate (v.length-c.2) 0++List.drop (c.2+(v.length-c.2)) c.1)).take c.2=compL v:=by
    rw[List.take_append_of_le_length (by rw[List.length_take];omega),List.take_take,Nat.min_self];exact s3
   rw[←h6]
   exact SlotLe.take _ _ _
noncomputable def T35:List Entry:=[⟨129,[0],FFsort⟩,⟨130,[0],FFrev⟩,⟨131,[0],FFcompact⟩]++T34
theorem e35:EntriesOk Tryz.prog T35:=by
 refine EntriesOk.append ?_ e34
 intro e he
 simp only[List.mem_cons,List.not_mem_nil,or_false]at he
 rcases he with rfl|rfl|rfl
 ·exact m113
 ·exact m114
 ·exact m115
theorem t35:CtOk Tryz.prog (ctOf T35):=ctOf_ok e35
noncomputable abbrev f66:=Tryz.f80
noncomputable def I66 (k:Int) (a b:List Int) (c:List Bool) (v:List Int) (n:Nat) (out:List Int) (i:Int):St:=
 stOf f66.ntmps [(1,.c (.ptr 0 0 0 0)),(3,.c (.sl 1 0 n 1 none)),(9,.c (.sl 2 0 v.length 1 none)),(10,.c (.int .i64 v.length)),(11,.c (.int .i64 i))]
  [.live (.cells [.int .i64 k,.view none (.ints .i64 a) a.length 1 none,.view none (.ints .i64 b) b.length 1 none,.view none (.bools c) c.length 1 none]),.live (.ints .i64 out),.live (.ints .i64 v)]
noncomputable def X66 (n:Nat) (out:List Int):St:=stOf f66.ntmps [(3,.c (.sl 0 0 n 1 none))] [.live (.ints .i64 out)]
theorem r66_1 (k:Int) (a b:List Int) (c:List Bool) (v:List Int) (n:Nat) (out:List Int) (i:Int):roundR 0 (liveH f66 0) (liveB' f66 0) (evalC tt (ctOf T35) ([]) 0 100 (bodyAt 0 (codeOf f66)) (I66 k a b c v n out i) [(0,true)])=
  some (.normal,(decide (i<(↑v.length:Int))&&(decide (0≤i)&&(decide (i<(↑v.length:Int))&&(decide (i.toNat<v.length)&&(decide (0≤v.getD i.toNat 0)&&(decide (v.getD i.toNat 0<(↑b.length:Int))&&(decide ((v.getD i.toNat 0).toNat<b.length)&&(decide (n=out.length)&&((decide (n+1≤274877906944))&&true))))))))),[],I66 k a b c v (n+1) (out++[b.getD (v.getD i.toNat 0).toNat 0]) (IntKind.i64.wrap (i+1))):=by kernel_rfl
theorem r66_2 (k:Int) (a b:List Int) (c:List Bool) (v:List Int) (n:Nat) (out:List Int) (i:Int):roundR 0 (liveH f66 0) (liveB' f66 0) (evalC tt (ctOf T35) ([]) 0 100 (bodyAt 0 (codeOf f66)) (I66 k a b c v n out i) [(0,false)])=
  some (.exit 0,((!decide (i<(↑v.length:Int)))&&true),[],X66 (n) (out)):=by kernel_rfl
def versS (b v:List Int) (i:Nat) (out:List Int):List Int:=out++[b.getD (v.getD i 0).toNat 0]
def versA (b v:List Int):List Int:=runN (versS b v) v.length 0 []
def versL (b:List Int) (c:List Bool):List Int:=compL (revL (sortL (versA b (flg c))))
theorem x66_1 (k:Int) (a b:List Int) (c:List Bool):evalF tt (ctOf T35) ([(0,⟨liveH f66 0,I66 k a b c (flg c) 0 [] 0,.normal,X66 (versA b (flg c)).length (versA b (flg c))⟩)]) 100 f66 [.agg [.int .i64 k,.view none (.ints .i64 a) a.length 1 none,.view none (.ints .i64 b) b.length 1 none,.view none (.bools c) c.length 1 none]] [] []=
  some ⟨.c (.sl 0 0 (compL (revL (sortL (versA b (flg c))))).length 1 none),[.live (.ints .i64 (compL (revL (sortL (versA b (flg c))))))],(decide (c.length≤274877906944)&&(decide ((versA b (flg c)).length≤8)&&(decide ((versA b (flg c)).length=(versA b (flg c)).length)&&(decide ((sortL (versA b (flg c))).length≤274877906944)&&(decide ((versA b (flg c)).length=(sortL (versA b (flg c))).length)&&(decide ((revL (sortL (versA b (flg c)))).length≤274877906944)&&((decide ((versA b (flg c)).length=(revL (sortL (versA b (flg c)))).length))&&true))))))),[I66 k a b c (flg c) 0 [] 0=I66 k a b c (flg c) 0 [] 0]⟩:=by kernel_rfl
end Go.Proofs.YthapjdpkelihiaaGreat.Am
end
section
namespace Go.Proofs.YthapjdpkelihiaaGreat.Am
theorem versA_len (b v:List Int):(versA b v).length=v.length:=runN_inv0 (step:=versS b v) (fun i o=>o.length=i) v.length [] rfl fun i o _ h=>by simp[versS,h]
theorem l66 (k:Int) (a b:List Int) (c:List Bool) (v:List Int) (hl:v.length≤8) (hp:places v b.length=true):
  Good Tryz.prog 0 (.block 0 (.loop (bodyAt 0 (codeOf f66)))) (I66 k a b c v 0 [] 0) fun e t=>e=.normal∧t=X66 (versA b v).length (versA b v):=by
 refine(Good.count hT t35 hmix v.length (fun i o=>o.length=i) (fun i o=>I66 k a b c v o.length o i) (fun o=>X66 o.length o) (versS b v) (liveH f66 0) (liveB' f66 0)
  (fun _ _=>[]) (fun _ _ _ _=>LcOk.nil) (fun i o hi h=>⟨by simp[versS,h], ?_⟩) (fun o h=>⟨_,_,⟨_,_,r66_2 k a b c v o.length o v.length,by simp,by simp⟩⟩)) [] rfl
 have hb:=places_get hp hi
 have e:=r66_1 k a b c v o.length o i
 rw[wrap_small (by omega) (by omega),Int.toNat_natCast]at e
 have hlen:(versS b v i o).length=o.length+1:=by simp[versS]
 rw[hlen]
 refine⟨_,_,⟨_,_,e, ?_,by simp⟩⟩
 simp only[Bool.and_true,Bool.and_eq_true,decide_eq_true_eq,true_and,and_true]
 omega
theorem revL_len (v:List Int):(revL v).length=v.length:=runN_inv0 (step:=revS v.length) (fun _ o=>o.length=v.length) _ v rfl fun i o _ h=>by simp[revS,h]
def FFvers:Model:=fun args h=>
 match args,h with
 |[.agg [.int .i64 k,.view _ (.ints .i64 a) n1 1 _,.view _ (.ints .i64 b) n2 1 _,.view _ (.bools c) n3 1 _]],[]=>
  some (.c (.sl 0 0 (versL b c).length 1 none),[.live (.ints .i64 (versL b c))],[decide (c.length≤8),decide (b.length=c.length)])
 |_,_=>none
theorem m66:ModelN Tryz.prog 80 FFvers:=by
 intro args h res h' o hnorm he ho
 unfold FFvers at he
 split at he
 case h_2=>cases he
 rename_i k nl1 a n1 cap1 nl2 b n2 cap2 nl3 c n3 cap3
 simp only[Option.some.injEq,Prod.mk.injEq]at he
 obtain⟨rfl,rfl,rfl⟩:=he
 simp only[List.mem_cons,List.not_mem_nil,or_false,forall_eq_or_imp,forall_eq,decide_eq_true_eq]at ho
 obtain⟨o1,o2⟩:=ho
 simp only[normA,AV.norm,normL,Cell.norm,Con.size,List.cons.injEq,AV.c.injEq,AV.agg.injEq,Cell.view.injEq,nlen_one,true_and,and_true]at hnorm
 obtain⟨⟨rfl,rfl,rfl⟩,⟨rfl,rfl,rfl⟩,rfl,rfl,rfl⟩:=hnorm
 have h1:=flg_len c
 have g:=l66 k a b c (flg c) (by omega) (by rw[o2];exact flg_places c)
 exact meets_of t35 (fn:=f66) (by kernel_rfl) (by kernel_rfl) (x66_1 k a b c) (by simp[versA_len,sortL_len,revL_len];omega) (by simp) (fun cc hc=>LcOk.cons (c:=cc) (by cases hc;kernel_rfl) (by cases hc;exact g) LcOk.nil)
noncomputable def T36:List Entry:=[⟨80,[],nm FFvers⟩]++T35
theorem e36:EntriesOk Tryz.prog T36:=by
 refine EntriesOk.append ?_ e35
 intro e he
 simp only[List.mem_cons,List.not_mem_nil,or_false]at he
 subst he;exact m66.ok
theorem t36:CtOk Tryz.prog (ctOf T36):=ctOf_ok e36
theorem x73_1 (k:Int) (a b:List Int) (c:List Bool):evalF tt (ctOf T36) ([]) 100 Tryz.f69 [.agg [.int .i64 k,.view none (.ints .i64 a) a.length 1 none,.view none (.ints .i64 b) b.length 1 none,.view none (.bools c) c.length 1 none]] [] [(0,true)]=
  some ⟨.c (.int .i64 ((versL b c).getD 0 0)),[],(decide (c.length≤8)&&(decide (b.length=c.length)&&(decide (0<(↑(versL b c).length:Int))&&(decide (0<(↑(versL b c).length:Int))&&((decide (0<(versL b c).length))&&true))))),[]⟩:=by kernel_rfl
theorem x73_2 (k:Int) (a b:List Int) (c:List Bool):evalF tt (ctOf T36) ([]) 100 Tryz.f69 [.agg [.int .i64 k,.view none (.ints .i64 a) a.length 1 none,.view none (.ints .i64 b) b.length 1 none,.view none (.bools c) c.length 1 none]] [] [(0,false)]=
  some ⟨.c (.int .i64 0),[],(decide (c.length≤8)&&(decide (b.length=c.length)&&((!decide (0<(↑(versL b c).length:Int)))&&true))),[]⟩:=by kernel_rfl
def topL (b:List Int) (c:List Bool):Int:=(versL b c).getD 0 0
def FFtop:Model:=fun args h=>
 match args,h with
 |[.agg [.int .i64 k,.view _ (.ints .i64 a) n1 1 _,.view _ (.ints .i64 b) n2 1 _,.view _ (.bools c) n3 1 _]],[]=>
  some (.c (.int .i64 (topL b c)),[],[decide (c.length≤8),decide (b.length=c.length)])
 |_,_=>none
theorem m73:ModelN Tryz.prog 69 FFtop:=by
 intro args h res h' o hnorm he ho
 unfold FFtop at he
 split at he
 case h_2=>cases he
 rename_i k nl1 a n1 cap1 nl2 b n2 cap2 nl3 c n3 cap3
 simp only[Option.some.injEq,Prod.mk.injEq]at he
 obtain⟨rfl,rfl,rfl⟩:=he
 simp only[List.mem_cons,List.not_mem_nil,or_false,forall_eq_or_imp,forall_eq,decide_eq_true_eq]at ho
 obtain⟨o1,o2⟩:=ho
 simp only[normA,AV.norm,normL,Cell.norm,Con.size,List.cons.injEq,AV.c.injEq,AV.agg.injEq,Cell.view.injEq,nlen_one,true_and,and_true]at hnorm
 obtain⟨⟨rfl,rfl,rfl⟩,⟨rfl,rfl,rfl⟩,rfl,rfl,rfl⟩:=hnorm
 by_cases h0:0<((versL b c).length:Int)
 ·exact meets_of t36 (by kernel_rfl) (by kernel_rfl) (x73_1 k a b c) (by simp only[Bool.and_eq_true,decide_eq_true_eq,Bool.and_true];omega) (by simp) (fun c _=>LcOk.nil)
 ·have hz:topL b c=0:=by
   have:versL b c=[]:=List.eq_nil_of_length_eq_zero (by omega)
   unfold topL;rw[this];rfl
  rw[hz]
  exact meets_of t36 (by kernel_rfl) (by kernel_rfl) (x73_2 k a b c) (by simp only[Bool.and_eq_true,decide_eq_true_eq,Bool.and_true,Bool.not_eq_true',decide_eq_false_iff_not];omega) (by simp) (fun c _=>LcOk.nil)
theorem ok1M:ModelOk Tryz.prog 134 (inlM tt (ctOf T36) Tryz.f134 []):=inlM_ok hT t36 hmix [] (by kernel_rfl) (by kernel_rfl)
noncomputable def T37:List Entry:=[⟨69,[],nm FFtop⟩,⟨134,[1],inlM tt (ctOf T36) Tryz.f134 []⟩]++T36
theorem e37:EntriesOk Tryz.prog T37:=by
 refine EntriesOk.append ?_ e36
 intro e he
 simp only[List.mem_cons,List.not_mem_nil,or_false]at he
 rcases he with rfl|rfl
 ·exact m73.ok
 ·exact ok1M
theorem t37:CtOk Tryz.prog (ctOf T37):=ctOf_ok e37
noncomputable abbrev f146s:=Tryz.f176
noncomputable def I146s (k:Int) (n1 n2 n3:Nat) (nl1 nl2 nl3:Option Bool) (cap1 cap2 cap3:Option Nat) (a b:List Int) (c:List Bool) (v:List Int) (i:Int):St:=
 stOf f146s.ntmps [(0,.c (.sl 0 0 v.length 1 none)),(1,.c (.fn 134 [.ptr 1 0 0 0])),(7,.c (.int .i64 v.length)),(8,.c (.int .i64 i))] [.live (.ints .i64 v),.live (.cells [.int .i64 k,.view nl1 (.ints .i64 a) n1 1 cap1,.view nl2 (.ints .i64 b) n2 1 cap2,.view nl3 (.bools c) n3 1 cap3])]
noncomputable def X146s (k:Int) (n1 n2 n3:Nat) (nl1 nl2 nl3:Option Bool) (cap1 cap2 cap3:Option Nat) (a b:List Int) (c:List Bool) (v:List Int):St:=stOf f146s.ntmps [] [.live (.ints .i64 v),.live (.cells [.int .i64 k,.view nl1 (.ints .i64 a) n1 1 cap1,.view nl2 (.ints .i64 b) n2 1 cap2,.view nl3 (.bools c) n3 1 cap3])]
noncomputable def Y146s (k:Int) (n1 n2 n3:Nat) (nl1 nl2 nl3:Option Bool) (cap1 cap2 cap3:Option Nat) (a b:List Int) (c:List Bool) (v:List Int) (i:Int):St:=stOf f146s.ntmps [(4,.c (.int .i64 i))] [.live (.ints .i64 v),.live (.cells [.int .i64 k,.view nl1 (.ints .i64 a) n1 1 cap1,.view nl2 (.ints .i64 b) n2 1 cap2,.view nl3 (.bools c) n3 1 cap3])]
theorem r146s_1 (k:Int) (n1 n2 n3:Nat) (nl1 nl2 nl3:Option Bool) (cap1 cap2 cap3:Option Nat) (a b:List Int) (c:List Bool) (v:List Int) (i:Int):roundR 2 (liveH f146s 0) (liveB' f146s 0) (evalC tt (ctOf T37) ([]) 2 100 (bodyAt 0 (codeOf f146s)) (I146s k n1 n2 n3 nl1 nl2 nl3 cap1 cap2 cap3 a b c v i) [(0,true),(0,true)])=
  some (.ret,(decide (i<(↑v.length:Int))&&(decide (0≤i)&&(decide (i<(↑v.length:Int))&&(decide (i.toNat<v.length)&&((decide (c.length≤274877906944)&&(decide (b.length=c.length)&&(decide ((ofL b c (v.getD i.toNat 0)).length=(ofL b c (v.getD i.toNat 0)).length)&&(decide ((ofL b c (v.getD i.toNat 0)).length≤8)&&(bet k 1 2&&(allShard (ofL b c (v.getD i.toNat 0))&&(decide (a.length=8)&&(allFok a&&(solOk k a (ofL b c (v.getD i.toNat 0))&&true)))))))))&&((!fitsL k a (ofL b c (v.getD i.toNat 0)))&&true)))))),[],Y146s k n1 n2 n3 nl1 nl2 nl3 cap1 cap2 cap3 a b c v (i)):=by kernel_rfl
theorem r146s_2 (k:Int) (n1 n2 n3:Nat) (nl1 nl2 nl3:Option Bool) (cap1 cap2 cap3:Option Nat) (a b:List Int) (c:List Bool) (v:List Int) (i:Int):roundR 2 (liveH f146s 0) (liveB' f146s 0) (evalC tt (ctOf T37) ([]) 2 100 (bodyAt 0 (codeOf f146s)) (I146s k n1 n2 n3 nl1 nl2 nl3 cap1 cap2 cap3 a b c v i) [(0,true),(0,false)])=
  some (.normal,(decide (i<(↑v.length:Int))&&(decide (0≤i)&&(decide (i<(↑v.length:Int))&&(decide (i.toNat<v.length)&&((decide (c.length≤274877906944)&&(decide (b.length=c.length)&&(decide ((ofL b c (v.getD i.toNat 0)).length=(ofL b c (v.getD i.toNat 0)).length)&&(decide ((ofL b c (v.getD i.toNat 0)).length≤8)&&(bet k 1 2&&(allShard (ofL b c (v.getD i.toNat 0))&&(decide (a.length=8)&&(allFok a&&(solOk k a (ofL b c (v.getD i.toNat 0))&&true)))))))))&&((!!fitsL k a (ofL b c (v.getD i.toNat 0)))&&true)))))),[],I146s k n1 n2 n3 nl1 nl2 nl3 cap1 cap2 cap3 a b c v (IntKind.i64.wrap (i+1))):=by kernel_rfl
theorem r146s_3 (k:Int) (n1 n2 n3:Nat) (nl1 nl2 nl3:Option Bool) (cap1 cap2 cap3:Option Nat) (a b:List Int) (c:List Bool) (v:List Int) (i:Int):roundR 2 (liveH f146s 0) (liveB' f146s 0) (evalC tt (ctOf T37) ([]) 2 100 (bodyAt 0 (codeOf f146s)) (I146s k n1 n2 n3 nl1 nl2 nl3 cap1 cap2 cap3 a b c v i) [(0,false)])=
  some (.exit 0,((!decide (i<(↑v.length:Int)))&&true),[],X146s k n1 n2 n3 nl1 nl2 nl3 cap1 cap2 cap3 a b c v):=by kernel_rfl
noncomputable def p146s (k:Int) (n1 n2 n3:Nat) (nl1 nl2 nl3:Option Bool) (cap1 cap2 cap3:Option Nat) (a b:List Int) (c:List Bool) (v:List Int):Option Nat→St
 |some j=>Y146s k n1 n2 n3 nl1 nl2 nl3 cap1 cap2 cap3 a b c v j
 |none=>X146s k n1 n2 n3 nl1 nl2 nl3 cap1 cap2 cap3 a b c v
theorem l146s (k:Int) (n1 n2 n3:Nat) (nl1 nl2 nl3:Option Bool) (cap1 cap2 cap3:Option Nat) (a b:List Int) (c:List Bool) (v:List Int) (hl:v.length≤274877906944) (hc:c.length≤274877906944) (hbc:b.length=c.length) (hkd:bet k 1 2=true) (ha:a.length=8) (haf:allFok a=true) (hok: ∀i,i<v.length→(ofL b c (v.getD i 0)).length≤8∧allShard (ofL b c (v.getD i 0))=true∧solOk k a (ofL b c (v.getD i 0))=true):
  Good Tryz.prog 2 (.block 0 (.loop (bodyAt 0 (codeOf f146s)))) (I146s k n1 n2 n3 nl1 nl2 nl3 cap1 cap2 cap3 a b c v 0) fun e t=>e=e154 (idxO (fun x=> !fitsL k a (ofL b c x)) v)∧t=p146s k n1 n2 n3 nl1 nl2 nl3 cap1 cap2 cap3 a b c v (idxO (fun x=> !fitsL k a (ofL b c x)) v):=by
 refine Good.roundsR hT t37 hmix (m:=2) (id:=0) (body:=bodyAt 0 (codeOf f146s)) (α:=Nat)
  (fun i=>i≤v.length∧idxAt (fun x=> !fitsL k a (ofL b c x)) v (v.length-i) i=idxO (fun x=> !fitsL k a (ofL b c x)) v) (fun i=>I146s k n1 n2 n3 nl1 nl2 nl3 cap1 cap2 cap3 a b c v i) (fun i=>v.length-i) (liveH f146s 0) (liveB' f146s 0)
  (fun _=>e154 (idxO (fun x=> !fitsL k a (ofL b c x)) v)) (fun _=>p146s k n1 n2 n3 nl1 nl2 nl3 cap1 cap2 cap3 a b c v (idxO (fun x=> !fitsL k a (ofL b c x)) v)) (fun _=>[]) (fun _ _=>LcOk.nil) (fun i hx=> ?_) 0 ⟨by simp,rfl⟩
 obtain⟨h1,h3⟩:=hx
 by_cases hi:i<v.length
 ·have hk:v.length-i=(v.length-(i+1))+1:=by omega
  rw[hk]at h3
  simp only[idxAt]at h3
  obtain⟨ho1,ho2,ho3⟩:=hok i hi
  cases hz:(fun x=> !fitsL k a (ofL b c x)) (v.getD i 0)with
  |false=>
   dsimp only at hz
   rw[hz]at h3
   have e:=r146s_2 k n1 n2 n3 nl1 nl2 nl3 cap1 cap2 cap3 a b c v i
   rw[wrap_small (by omega) (by omega),Int.toNat_natCast]at e
   refine⟨_,_,_,_,_,_,e, ?_,by simp,.inl ⟨rfl,i+1,⟨by omega,by simpa using h3⟩,by omega,rfl,rfl,rfl⟩⟩
   simp only[hz,ho2,ho3,hkd,haf,Bool.not_false,Bool.true_and,Bool.and_true,Bool.and_eq_true,decide_eq_true_eq,true_and,and_true]
   omega
  |true=>
   dsimp only at hz
   rw[hz]at h3
   simp only[cond_true]at h3
   have e:=r146s_1 k n1 n2 n3 nl1 nl2 nl3 cap1 cap2 cap3 a b c v i
   rw[Int.toNat_natCast]at e
   refine⟨_,_,_,_,_,_,e, ?_,by simp,.inr (.inr ⟨by simp,by simp, ?_, ?_⟩)⟩
   ·simp only[hz,ho2,ho3,hkd,haf,Bool.true_and,Bool.and_true,Bool.and_eq_true,decide_eq_true_eq,true_and,and_true]
    omega
   ·rw[←h3];rfl
   ·rw[←h3];rfl
 ·have hz:v.length-i=0:=by omega
  rw[hz]at h3
  simp only[idxAt]at h3
  exact⟨_,_,_,_,_,_,r146s_3 k n1 n2 n3 nl1 nl2 nl3 cap1 cap2 cap3 a b c v i,by simp;omega,by simp,.inr (.inl ⟨rfl,by rw[←h3];rfl,by rw[←h3];rfl⟩)⟩
end Go.Proofs.YthapjdpkelihiaaGreat.Am
end
section
namespace Go.Proofs.YthapjdpkelihiaaGreat.Am
theorem runN_rel {β γ:Type} {s:Nat→β→β} {s':Nat→γ→γ} (R:Nat→β→γ→Prop): ∀(f i:Nat) (b:β) (c:γ),R i b c→(∀k b c,i≤k→k<i+f→R k b c→R (k+1) (s k b) (s' k c))→R (i+f) (runN s f i b) (runN s' f i c)
 |0,i,b,c,h,_=>h
 |f+1,i,b,c,h,hs=>by
  have:=runN_rel (s:=s) (s':=s') R f (i+1) (s i b) (s' i c) (hs i b c (Nat.le_refl _) (by omega) h) (fun k b c h1 h2=>hs k b c (by omega) (by omega))
  rw[show i+(f+1)=i+1+f from by omega]
  exact this
theorem runN_rel0 {β γ:Type} {s:Nat→β→β} {s':Nat→γ→γ} (R:Nat→β→γ→Prop) (n:Nat) (b:β) (c:γ) (h:R 0 b c) (hs: ∀k b c,k<n→R k b c→R (k+1) (s k b) (s' k c)):R n (runN s n 0 b) (runN s' n 0 c):=by
 have:=runN_rel R n 0 b c h (fun k b c _ h2=>hs k b c (by omega))
 rwa[Nat.zero_add]at this
def RowsEq (n:Nat) (zs zs':List Int):Prop:=zs.length=n*5∧zs'.length=n*5∧ ∀j,j<n→ ∀q,q<4→zs.getD (j*5+q) 0=zs'.getD (j*5+q) 0
theorem RowsEq.ld {n:Nat} {zs zs':List Int} (h:RowsEq n zs zs') {i:Nat} (hi:i<n):ld5 zs i=ld5 zs' i:=by
 unfold ld5
 have h0:=h.2.2 i hi 0 (by omega)
 rw[Nat.add_zero]at h0
 rw[h0,h.2.2 i hi 1 (by omega),h.2.2 i hi 2 (by omega),h.2.2 i hi 3 (by omega)]
theorem toldL_rows (w w' v ys:List Int) (r:Nat):RowsEq r (toldL w v ys r) (toldL w' v ys r):=by
 refine runN_rel0 (fun i zs zs'=>RowsEq i zs zs') r [] [] ⟨rfl,rfl,fun j hj=>by omega⟩ fun k zs zs' hk h=> ?_
 obtain⟨h1,h2,h3⟩:=h
 refine⟨by simp[toldS,h1];omega,by simp[toldS,h2];omega,fun j hj q hq=> ?_⟩
 unfold toldS
 rw[getD_app,getD_app,h1,h2]
 by_cases e:j*5+q<k*5
 ·rw[if_pos e,if_pos e];exact h3 j (by omega) q hq
 ·rw[if_neg e,if_neg e]
  have:j=k:=by omega
  subst this
  rw[show j*5+q-j*5=q from by omega]
  match q,hq with
  |0,_|1,_|2,_|3,_=>rfl
theorem elimS_get {n:Nat} {zs:List Int} (hz:zs.length=n*5) {i j:Nat} {at_:Int} (hj:j<n) {p q:Nat} (hp:p<n) (hq:q<4):
  (elimS zs i at_ j).getD (p*5+q) 0=if p=j then elE zs i j at_ q else zs.getD (p*5+q) 0:=by
 unfold elimS elimR setR
 by_cases e:p=j
 ·subst e
  rw[if_pos rfl]
  match q,hq with
  |0,_=>
   rw[getD_set,if_neg (by omega),getD_set,if_neg (by omega),getD_set,if_neg (by omega),getD_set,if_neg (by omega),getD_set,if_pos ⟨by omega,by omega⟩]
  |1,_=>
   rw[getD_set,if_neg (by omega),getD_set,if_neg (by omega),getD_set,if_neg (by omega),getD_set,if_pos ⟨by omega,by simp;omega⟩]
  |2,_=>
   rw[getD_set,if_neg (by omega),getD_set,if_neg (by omega),getD_set,if_pos ⟨by omega,by simp;omega⟩]
  |3,_=>
   rw[getD_set,if_neg (by omega),getD_set,if_pos ⟨by omega,by simp;omega⟩]
 ·rw[if_neg e]
  rw[getD_set,if_neg (by omega),getD_set,if_neg (by omega),getD_set,if_neg (by omega),getD_set,if_neg (by omega),getD_set,if_neg (by omega)]
theorem elimT_rows {n i j:Nat} {at_:Int} {zs zs':List Int} (h:RowsEq n zs zs') (hi:i<n) (hj:j<n) (ha:bet at_ 0 3=true):RowsEq n (elimT i at_ j zs) (elimT i at_ j zs'):=by
 have ha':=bet_iff.1 ha
 obtain⟨h1,h2,h3⟩:=h
 have hc:elC zs at_ j=elC zs' at_ j:=by
  unfold elC
  rw[Nat.mul_one]
  exact h3 j hj _ (by omega)
 unfold elimT
 rw[hc]
 cases ((j:Int)!=(i:Int))&&(elC zs' at_ j !=0)
 ·exact⟨h1,h2,h3⟩
 ·refine⟨by rw[cond_true,elimS_len];exact h1,by rw[cond_true,elimS_len];exact h2,fun p hp q hq=> ?_⟩
  rw[cond_true,cond_true,elimS_get h1 hj hp hq,elimS_get h2 hj hp hq]
  split
  ·unfold elE;rw[h3 j hj q hq,h3 i hi q hq,hc]
  ·exact h3 p hp q hq
theorem elimL_rows {n i:Nat} {at_:Int} {zs zs':List Int} (h:RowsEq n zs zs') (hi:i<n) (ha:bet at_ 0 3=true):RowsEq n (elimL n i at_ zs) (elimL n i at_ zs'):=
 runN_rel0 (fun _ zs zs'=>RowsEq n zs zs') n zs zs' h fun j zs zs' hj h=>elimT_rows h hi hj ha
theorem redOkAt_rows {n:Nat}: ∀(f i:Nat) {zs zs':List Int},RowsEq n zs zs'→i+f≤n→redOkAt n f i zs'=true→redOkAt n f i zs=true∧RowsEq n (runN (redT n) f i zs) (runN (redT n) f i zs')
 |0,i,zs,zs',h,_,_=>⟨rfl,h⟩
 |f+1,i,zs,zs',h,hi,hr=>by
  simp only[redOkAt,Bool.and_eq_true]at hr⊢
  have hl:=h.ld (i:=i) (by omega)
  have h':RowsEq n (redT n i zs) (redT n i zs'):=by
   unfold redT;rw[hl];exact elimL_rows h (by omega) hr.1
  have:=redOkAt_rows f (i+1) h' (by omega) hr.2
  rw[hl]
  exact⟨⟨hr.1,this.1⟩,this.2⟩
theorem solOk_rows {k:Int} {w w' v:List Int} (h:solOk k w' v=true):solOk k w v=true∧RowsEq (spK k v).2.length (redK k w v) (redK k w' v):=by
 simp only[solOk,Bool.and_eq_true,redOk]at h⊢
 have t:=toldL_rows w w' v (spK k v).1 (spK k v).2.length
 have r:=redOkAt_rows _ 0 t (by omega) h.1
 refine⟨⟨r.1, ?_⟩,r.2⟩
 refine allK_of fun i hi=> ?_
 have hl:=RowsEq.ld (zs:=redK k w v) (zs':=redK k w' v) r.2 hi
 rw[hl]
 exact allK_spec h.2 i hi
def maskB (m:Nat):List Bool:=[m.testBit 0,m.testBit 1,m.testBit 2,m.testBit 3,m.testBit 4,m.testBit 5,m.testBit 6,m.testBit 7]
def z8:List Int:=[0,0,0,0,0,0,0,0]
def bitN (b:Bool) (n:Nat):Nat:=bif b then n else 0
theorem maskB_of (c:List Bool) (h:c.length=8): ∃m,m<256∧maskB m=c:=by
 match c,h with
 |[a,b,c,d,e,f,g,h],_=>
  refine⟨bitN a 1+bitN b 2+bitN c 4+bitN d 8+bitN e 16+bitN f 32+bitN g 64+bitN h 128, ?_, ?_⟩
  ·cases a<;>cases b<;>cases c<;>cases d<;>cases e<;>cases f<;>cases g<;>cases h<;>decide
  ·cases a<;>cases b<;>cases c<;>cases d<;>cases e<;>cases f<;>cases g<;>cases h<;>decide
end Go.Proofs.YthapjdpkelihiaaGreat.Am
end
