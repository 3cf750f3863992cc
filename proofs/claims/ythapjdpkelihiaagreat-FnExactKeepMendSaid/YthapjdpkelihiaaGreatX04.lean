/- DERIVED. Part 4 of the proof: C28, C29, C30, C31, C32, C33, P1. No statement of the program is proved here. -/
import Derived.Test.YthapjdpkelihiaaGreatX03
set_option linter.unusedSimpArgs false
set_option linter.unusedVariables false
set_option linter.unusedSectionVars false
namespace Go.Proofs.YthapjdpkelihiaaGreat.Am
section
noncomputable def uA (k:Int) (n1 n2 n3:Nat) (nl1 nl2 nl3:Option Bool) (cap1 cap2 cap3:Option Nat) (a b:List Int) (c:List Bool) (vs:Int) (n:Nat) (v:List Int) (i j:Int):St:=
 aY f141.ntmps [(0,.c (.sl 0 0 n 1 none)),(1,.c (.fn 155 [.ptr 1 0 0 0,.ptr 2 0 0 0])),(5,.c (.int .i64 i)),(6,.c (.int .i64 j))]
  [.live (.ints .i64 v),.live (.cells [.int .i64 k,.view nl1 (.ints .i64 a) n1 1 cap1,.view nl2 (.ints .i64 b) n2 1 cap2,.view nl3 (.bools c) n3 1 cap3]),.live (.ints .i64 [vs])]
noncomputable def KM (k:Int) (n1 n2 n3:Nat) (nl1 nl2 nl3:Option Bool) (cap1 cap2 cap3:Option Nat) (a b:List Int) (c:List Bool) (vs:Int) (n:Nat) (v:List Int) (i:Int):St:=
 aY f141.ntmps [(0,.c (.sl 0 0 n 1 none)),(5,.c (.int .i64 i))]
  [.live (.ints .i64 v),.live (.cells [.int .i64 k,.view nl1 (.ints .i64 a) n1 1 cap1,.view nl2 (.ints .i64 b) n2 1 cap2,.view nl3 (.bools c) n3 1 cap3]),.live (.ints .i64 [vs])]
theorem RX (k:Int) (n1 n2 n3:Nat) (nl1 nl2 nl3:Option Bool) (cap1 cap2 cap3:Option Nat) (a b:List Int) (c:List Bool) (vs:Int) (n:Nat) (v:List Int) (i j:Int):aC 3 (a8 f141 0) (aA f141 0) (aG tt (a9 T28) ([]) 3 100 (a0 0 (a5 f141)) (uA k n1 n2 n3 nl1 nl2 nl3 cap1 cap2 cap3 a b c vs n v i j) [(0,true),(0,true)])=
  some (.normal,(decide (j<(↑n:Int))&&(decide (0≤j)&&(decide (j<(↑n:Int))&&(decide (j.toNat<v.length)&&((decide (0≤v.getD j.toNat 0)&&(decide (v.getD j.toNat 0<(↑n2:Int))&&(decide ((v.getD j.toNat 0).toNat<b.length)&&true)))&&((!b.getD (v.getD j.toNat 0).toNat 0 !=vs)&&(decide (0≤i)&&(decide (i<(↑n:Int))&&((decide (i.toNat<v.length))&&true))))))))),[],uA k n1 n2 n3 nl1 nl2 nl3 cap1 cap2 cap3 a b c vs n (v.set i.toNat (v.getD j.toNat 0)) (IntKind.i64.wrap (i+1)) (IntKind.i64.wrap (j+1))):=by kernel_rfl
theorem RY (k:Int) (n1 n2 n3:Nat) (nl1 nl2 nl3:Option Bool) (cap1 cap2 cap3:Option Nat) (a b:List Int) (c:List Bool) (vs:Int) (n:Nat) (v:List Int) (i j:Int):aC 3 (a8 f141 0) (aA f141 0) (aG tt (a9 T28) ([]) 3 100 (a0 0 (a5 f141)) (uA k n1 n2 n3 nl1 nl2 nl3 cap1 cap2 cap3 a b c vs n v i j) [(0,true),(0,false)])=
  some (.normal,(decide (j<(↑n:Int))&&(decide (0≤j)&&(decide (j<(↑n:Int))&&(decide (j.toNat<v.length)&&((decide (0≤v.getD j.toNat 0)&&(decide (v.getD j.toNat 0<(↑n2:Int))&&(decide ((v.getD j.toNat 0).toNat<b.length)&&true)))&&((!!b.getD (v.getD j.toNat 0).toNat 0 !=vs)&&true)))))),[],uA k n1 n2 n3 nl1 nl2 nl3 cap1 cap2 cap3 a b c vs n (v) (i) (IntKind.i64.wrap (j+1))):=by kernel_rfl
theorem RZ (k:Int) (n1 n2 n3:Nat) (nl1 nl2 nl3:Option Bool) (cap1 cap2 cap3:Option Nat) (a b:List Int) (c:List Bool) (vs:Int) (n:Nat) (v:List Int) (i j:Int):aC 3 (a8 f141 0) (aA f141 0) (aG tt (a9 T28) ([]) 3 100 (a0 0 (a5 f141)) (uA k n1 n2 n3 nl1 nl2 nl3 cap1 cap2 cap3 a b c vs n v i j) [(0,false)])=
  some (.exit 0,((!decide (j<(↑n:Int)))&&true),[],KM k n1 n2 n3 nl1 nl2 nl3 cap1 cap2 cap3 a b c vs n (v) (i)):=by kernel_rfl
theorem NZ (k:Int) (n1 n2 n3:Nat) (nl1 nl2 nl3:Option Bool) (cap1 cap2 cap3:Option Nat) (a b:List Int) (c:List Bool) (vs:Int) (n:Nat) (v:List Int):aD tt (a9 T28) ([]) 100 f141 [.c (.sl 0 0 n 1 none),.c (.fn 155 [.ptr 1 0 0 0,.ptr 2 0 0 0])] [.live (.ints .i64 v),.live (.cells [.int .i64 k,.view nl1 (.ints .i64 a) n1 1 cap1,.view nl2 (.ints .i64 b) n2 1 cap2,.view nl3 (.bools c) n3 1 cap3]),.live (.ints .i64 [vs])] [(0,true)]=
  some ⟨.c (.sl 0 0 n 1 none),[.live (.ints .i64 v),.live (.cells [.int .i64 k,.view nl1 (.ints .i64 a) n1 1 cap1,.view nl2 (.ints .i64 b) n2 1 cap2,.view nl3 (.bools c) n3 1 cap3]),.live (.ints .i64 [vs])],(decide (v.length≤274877906944)&&(decide (v.length=n)&&(d7 v b.length&&(decide (n2=b.length)&&((cR (fun x=>b.getD x.toNat 0 !=vs) v== -1)&&true))))),[]⟩:=by kernel_rfl
theorem U9 (k:Int) (n1 n2 n3:Nat) (nl1 nl2 nl3:Option Bool) (cap1 cap2 cap3:Option Nat) (a b:List Int) (c:List Bool) (vs:Int) (n:Nat) (v v':List Int) (i:Int):aD tt (a9 T28) ([(0,⟨a8 f141 0,uA k n1 n2 n3 nl1 nl2 nl3 cap1 cap2 cap3 a b c vs n v (cR (fun x=>b.getD x.toNat 0 !=vs) v) (IntKind.i64.wrap (cR (fun x=>b.getD x.toNat 0 !=vs) v+1)),.normal,KM k n1 n2 n3 nl1 nl2 nl3 cap1 cap2 cap3 a b c vs n v' i⟩)]) 100 f141 [.c (.sl 0 0 n 1 none),.c (.fn 155 [.ptr 1 0 0 0,.ptr 2 0 0 0])] [.live (.ints .i64 v),.live (.cells [.int .i64 k,.view nl1 (.ints .i64 a) n1 1 cap1,.view nl2 (.ints .i64 b) n2 1 cap2,.view nl3 (.bools c) n3 1 cap3]),.live (.ints .i64 [vs])] [(0,false)]=
  some ⟨.c (.sl 0 0 i.toNat 1 none),[.live (.ints .i64 (List.take i.toNat v'++(List.replicate (n-i.toNat) 0++List.drop (i.toNat+(n-i.toNat)) v'))),.live (.cells [.int .i64 k,.view nl1 (.ints .i64 a) n1 1 cap1,.view nl2 (.ints .i64 b) n2 1 cap2,.view nl3 (.bools c) n3 1 cap3]),.live (.ints .i64 [vs])],(decide (v.length≤274877906944)&&(decide (v.length=n)&&(d7 v b.length&&(decide (n2=b.length)&&((!cR (fun x=>b.getD x.toNat 0 !=vs) v== -1)&&(decide (0≤i)&&(decide (i≤(↑n:Int))&&(decide (i.toNat+(n-i.toNat)≤v'.length)&&(decide (0≤i)&&((decide (i≤(↑n:Int)))&&true)))))))))),[uA k n1 n2 n3 nl1 nl2 nl3 cap1 cap2 cap3 a b c vs n v (cR (fun x=>b.getD x.toNat 0 !=vs) v) (IntKind.i64.wrap (cR (fun x=>b.getD x.toNat 0 !=vs) v+1))=uA k n1 n2 n3 nl1 nl2 nl3 cap1 cap2 cap3 a b c vs n v (cR (fun x=>b.getD x.toNat 0 !=vs) v) (IntKind.i64.wrap (cR (fun x=>b.getD x.toNat 0 !=vs) v+1))]⟩:=by kernel_rfl
theorem mB {q:Int→Bool} {v:List Int}: ∀ {f i j:Nat},dA q v f i=some j→i≤j∧j<i+f∧q (v.getD j 0)=true∧ ∀k,i≤k→k<j→q (v.getD k 0)=false
 |0,i,j,h=>by simp[dA]at h
 |f+1,i,j,h=>by
  simp only[dA]at h
  cases hq:q (v.getD i 0)with
  |true=>
   rw[hq,cond_true]at h
   injection h with h;subst h
   exact⟨Nat.le_refl _,by omega,hq,fun k h1 h2=>by omega⟩
  |false=>
   rw[hq,cond_false]at h
   obtain⟨h1,h2,h3,h4⟩:=mB h
   refine⟨by omega,by omega,h3,fun k h5 h6=> ?_⟩
   by_cases e:k=i
   ·subst e;exact hq
   ·exact h4 k (by omega) h6
theorem j8 {q:Int→Bool} {v:List Int}: ∀ {f i:Nat},dA q v f i=none→ ∀k,i≤k→k<i+f→q (v.getD k 0)=false
 |0,i,h,k,h1,h2=>by omega
 |f+1,i,h,k,h1,h2=>by
  simp only[dA]at h
  cases hq:q (v.getD i 0)with
  |true=>rw[hq,cond_true]at h;cases h
  |false=>
   rw[hq,cond_false]at h
   by_cases e:k=i
   ·subst e;exact hq
   ·exact j8 h k (by omega) (by omega)
theorem gL {q:Int→Bool} {v:List Int}: ∀(n:Nat),n≤v.length→(∀k,k<n→q (v.getD k 0)=false)→(v.take n).filter (fun x=> !q x)=v.take n:=by
 intro n hn h
 refine List.filter_eq_self.2 fun x hx=> ?_
 obtain⟨k,hk⟩:=List.getElem?_of_mem hx
 rw[List.getElem?_take]at hk
 split at hk
 ·rename_i h1
  have:=h k h1
  rw[List.getD_eq_getElem?_getD,hk]at this
  simpa using this
 ·cases hk
theorem iT {v:List Int} {n:Nat} (h:n<v.length):v.take (n+1)=v.take n++[v.getD n 0]:=by
 rw[List.take_add_one,List.getD_eq_getElem?_getD,List.getElem?_eq_getElem h];rfl
def mU (q:Int→Bool) (j0:Nat) (t:Nat) (s:List Int×Nat):List Int×Nat:=bif q (s.1.getD (j0+t) 0)then s else(s.1.set s.2 (s.1.getD (j0+t) 0),s.2+1)
def AM (q:Int→Bool) (v:List Int) (j0:Nat) (t:Nat) (s:List Int×Nat):Prop:=
 s.1.length=v.length∧s.2<j0+t∧(∀k,j0+t≤k→s.1.getD k 0=v.getD k 0)∧s.1.take s.2=(v.take (j0+t)).filter (fun x=> !q x)
theorem iI {q:Int→Bool} {v:List Int} {j0 t:Nat} {s:List Int×Nat} (h:AM q v j0 t s) (ht:j0+t<v.length):AM q v j0 (t+1) (mU q j0 t s):=by
 obtain⟨h1,h2,h3,h4⟩:=h
 have hx:=h3 (j0+t) (Nat.le_refl _)
 unfold mU
 have ht':v.take (j0+(t+1))=v.take (j0+t)++[v.getD (j0+t) 0]:=iT ht
 cases hq:q (s.1.getD (j0+t) 0)with
 |true=>
  rw[cond_true]
  refine⟨h1,by omega,fun k hk=>h3 k (by omega), ?_⟩
  rw[ht',List.filter_append,h4]
  rw[hx]at hq
  rw[List.filter_cons,hq];simp
 |false=>
  rw[cond_false]
  refine⟨by simp[h1],by dsimp only;omega,fun k hk=> ?_, ?_⟩
  ·dsimp only
   rw[aU,if_neg (by omega)]
   exact h3 k (by omega)
  ·dsimp only
   rw[iT (by rw[List.length_set];omega),List.take_set,List.set_eq_of_length_le (by rw[List.length_take];omega),aU,if_pos ⟨rfl,by omega⟩,h4,ht',List.filter_append]
   rw[hx]at hq
   rw[hx,List.filter_cons,hq];simp
theorem kS {q:Int→Bool} {v:List Int} {i:Nat} (h:dQ q v=some i):i<v.length∧AM q v (i+1) 0 (v,i):=by
 obtain⟨h1,h2,h3,h4⟩:=mB h
 have hi:i<v.length:=by omega
 refine⟨hi,rfl,by dsimp only;omega,fun k _=>rfl, ?_⟩
 dsimp only
 rw[Nat.add_zero,iT hi,List.filter_append,gL i (by omega) (fun k hk=>h4 k (by omega) hk)]
 simp only[List.filter_cons,h3,List.filter_nil,Bool.not_true,Bool.false_eq_true,if_false,List.append_nil]
theorem a4Q (k:Int) (n1 n2 n3:Nat) (nl1 nl2 nl3:Option Bool) (cap1 cap2 cap3:Option Nat) (a b:List Int) (c:List Bool) (vs:Int) (v:List Int) (i0:Nat) (hl:v.length≤274877906944) (hp:d7 v b.length=true) (h2:n2=b.length) (h0:dQ (fun x=>b.getD x.toNat 0 !=vs) v=some i0):
  aS Tryz.prog 3 (.block 0 (.loop (a0 0 (a5 f141)))) (uA k n1 n2 n3 nl1 nl2 nl3 cap1 cap2 cap3 a b c vs v.length v i0 (i0+1:Nat)) fun e t=>e=.normal∧
   t=KM k n1 n2 n3 nl1 nl2 nl3 cap1 cap2 cap3 a b c vs v.length (bL (mU (fun x=>b.getD x.toNat 0 !=vs) (i0+1)) (v.length-(i0+1)) 0 (v,i0)).1 (bL (mU (fun x=>b.getD x.toNat 0 !=vs) (i0+1)) (v.length-(i0+1)) 0 (v,i0)).2:=by
 obtain⟨g1,g2⟩:=kS h0
 refine aS.count hT t28 bK (v.length-(i0+1)) (AM (fun x=>b.getD x.toNat 0 !=vs) v (i0+1)) (fun t s=>uA k n1 n2 n3 nl1 nl2 nl3 cap1 cap2 cap3 a b c vs v.length s.1 s.2 (i0+1+t:Nat)) (fun s=>KM k n1 n2 n3 nl1 nl2 nl3 cap1 cap2 cap3 a b c vs v.length s.1 s.2) (mU (fun x=>b.getD x.toNat 0 !=vs) (i0+1)) (a8 f141 0) (aA f141 0)
  (fun _ _=>[]) (fun _ _ _ _=>aI.nil) (fun t s ht h=>⟨iI h (by omega), ?_⟩) (fun s h=> ?_) (v,i0) g2
 ·have hn:=iI h (by omega)
  obtain⟨d1,d2,d3,d4⟩:=h
  have hpl:=gY hp (i:=i0+1+t) (by omega)
  have hx:=d3 (i0+1+t) (Nat.le_refl _)
  unfold mU
  cases hq:b.getD (s.1.getD (i0+1+t) 0).toNat 0 !=vs with
  |true=>
   have e:=RY k n1 n2 n3 nl1 nl2 nl3 cap1 cap2 cap3 a b c vs v.length s.1 s.2 (i0+1+t:Nat)
   rw[aB (by omega) (by omega),Int.toNat_natCast]at e
   dsimp only
   rw[hq]
   refine⟨_,_,⟨_,_,e, ?_,by simp⟩⟩
   simp only[hq,Bool.not_true,Bool.not_false,Bool.true_and,rpS,Bool.and_true,Bool.and_eq_true,decide_eq_true_eq]
   omega
  |false=>
   have e:=RX k n1 n2 n3 nl1 nl2 nl3 cap1 cap2 cap3 a b c vs v.length s.1 s.2 (i0+1+t:Nat)
   rw[aB (i:=((i0+1+t:Nat):Int)+1) (by omega) (by omega),aB (i:=(s.2:Int)+1) (by omega) (by omega),Int.toNat_natCast,Int.toNat_natCast]at e
   dsimp only
   rw[hq]
   refine⟨_,_,⟨_,_,e, ?_,by simp⟩⟩
   simp only[hq,Bool.not_false,Bool.true_and,rpS,Bool.and_true,Bool.and_eq_true,decide_eq_true_eq]
   omega
 ·rw[show i0+1+(v.length-(i0+1))=v.length from by omega]
  exact⟨_,_,⟨_,_,RZ k n1 n2 n3 nl1 nl2 nl3 cap1 cap2 cap3 a b c vs v.length s.1 s.2 v.length,by simp,by simp⟩⟩
def FR:aN:=fun args h=>
 match args,h with
 |[.c (.sl 0 0 n 1 none),.c (.fn 155 [.ptr 1 0 0 0,.ptr 2 0 0 0])],[.live (.ints .i64 v),.live (.cells [.int .i64 k,.view nl1 (.ints .i64 a) n1 1 cap1,.view nl2 (.ints .i64 b) n2 1 cap2,.view nl3 (.bools c) n3 1 cap3]),.live (.ints .i64 [vs])]=>
  some (.c (.sl 0 0 (v.filter fun x=> !(b.getD x.toNat 0 !=vs)).length 1 none),[.live (.ints .i64 (v.filter fun x=> !(b.getD x.toNat 0 !=vs))),.live (.cells [.int .i64 k,.view nl1 (.ints .i64 a) n1 1 cap1,.view nl2 (.ints .i64 b) n2 1 cap2,.view nl3 (.bools c) n3 1 cap3]),.live (.ints .i64 [vs])],[decide (v.length≤274877906944),decide (v.length=n),d7 v b.length,decide (n2=b.length)])
 |_,_=>none
theorem a5Y:aP Tryz.prog 154 FR:=by
 intro args h res h' o he ho
 unfold FR at he
 split at he
 case h_2=>cases he
 rename_i n v k nl1 a n1 cap1 nl2 b n2 cap2 nl3 c n3 cap3 vs
 simp only[Option.some.injEq,Prod.mk.injEq]at he
 obtain⟨rfl,rfl,rfl⟩:=he
 simp only[List.mem_cons,List.not_mem_nil,or_false,forall_eq_or_imp,forall_eq,decide_eq_true_eq]at ho
 obtain⟨o1,o2,o3,o4⟩:=ho
 subst o2
 cases hx:dQ (fun x=>b.getD x.toNat 0 !=vs) v with
 |none=>
  have hL:cR (fun x=>b.getD x.toNat 0 !=vs) v= -1:=by unfold cR;rw[hx]
  have hf:(v.filter fun x=> !(b.getD x.toNat 0 !=vs))=v:=by
   have:=gL (q:=(fun x=>b.getD x.toNat 0 !=vs)) (v:=v) v.length (Nat.le_refl _) (fun k hk=>j8 hx k (by omega) (by omega))
   rw[List.take_length]at this;exact this
  rw[hf]
  exact mo (fn:=f141) t28 (NZ k n1 n2 n3 nl1 nl2 nl3 cap1 cap2 cap3 a b c vs v.length v) (by rw[hL];simp[o1,o3,o4])
 |some i0=>
  have hL:cR (fun x=>b.getD x.toNat 0 !=vs) v=i0:=by unfold cR;rw[hx]
  obtain⟨g1,g2⟩:=kS hx
  have g:=a4Q k n1 n2 n3 nl1 nl2 nl3 cap1 cap2 cap3 a b c vs v i0 o1 o3 o4 hx
  have fin:=bB (step:=mU (fun x=>b.getD x.toNat 0 !=vs) (i0+1)) (AM (fun x=>b.getD x.toNat 0 !=vs) v (i0+1)) (v.length-(i0+1)) (v,i0) g2 fun t s ht h=>iI h (by omega)
  generalize bL (mU (fun x=>b.getD x.toNat 0 !=vs) (i0+1)) (v.length-(i0+1)) 0 (v,i0)=s at g fin
  obtain⟨d1,d2,d3,d4⟩:=fin
  rw[show i0+1+(v.length-(i0+1))=v.length from by omega]at d2 d4
  rw[List.take_length]at d4
  have hlen:(v.filter fun x=> !(b.getD x.toNat 0 !=vs)).length=s.2:=by rw[←d4,List.length_take];omega
  have e:=U9 k n1 n2 n3 nl1 nl2 nl3 cap1 cap2 cap3 a b c vs v.length v s.1 s.2
  rw[hL]at e
  have hw:IntKind.i64.wrap ((i0:Int)+1)=(i0+1:Nat):=by rw[aB (by omega) (by omega)];rfl
  rw[hw,Int.toNat_natCast]at e
  have mm:=mo (f:=154) (fn:=f141) t28 e (by
    have h3:(((i0:Int))== -1)=false:=by
     rw[beq_eq_false_iff_ne];omega
    simp only[h3,o1,o3,o4,Bool.not_false,Bool.true_and,rpS,Bool.and_true,Bool.and_eq_true,decide_eq_true_eq,true_and,and_true]
    omega) (hlc:=(fun cc hc=>aI.cons (c:=cc) (by cases hc;kernel_rfl) (by cases hc;exact g) aI.nil))
  rw[hlen]
  refine mm.slots ⟨?_,c6.refl _,c6.refl _,trivial⟩
  have h6:(List.take s.2 s.1++(List.replicate (v.length-s.2) 0++List.drop (s.2+(v.length-s.2)) s.1)).take s.2=v.filter fun x=> !(b.getD x.toNat 0 !=vs):=by
   rw[List.take_append_of_le_length (by rw[List.length_take];omega),List.take_take,Nat.min_self];exact d4
  rw[←h6]
  exact c6.take _ _ _
end
section
noncomputable def T29:List bD:=[⟨154,[0,1],FR⟩]++T28
theorem e29:a6 Tryz.prog T29:=by
 refine a6.append ?_ e28
 intro e he
 simp only[List.mem_cons,List.not_mem_nil,or_false]at he
 subst he;exact a5Y
theorem t29:bJ Tryz.prog (a9 T29):=aM e29
theorem TS (k:Int) (a b:List Int) (c:List Bool) (vs:Int):aD tt (a9 T29) ([]) 100 Tryz.f112 [.agg [.int .i64 k,.view none (.ints .i64 a) a.length 1 none,.view none (.ints .i64 b) b.length 1 none,.view none (.bools c) c.length 1 none],.c (.int .i64 vs)] [] []=
  some ⟨.c (.sl 0 0 (List.filter (fun x=> !b.getD x.toNat 0 !=vs) (flg c)).length 1 none),[.live (.ints .i64 (List.filter (fun x=> !b.getD x.toNat 0 !=vs) (flg c)))],(decide (c.length≤274877906944)&&(decide ((flg c).length≤274877906944)&&(decide ((flg c).length=(flg c).length)&&(d7 (flg c) b.length&&((decide (b.length=b.length))&&true))))),[]⟩:=by kernel_rfl
def ofL (b:List Int) (c:List Bool) (vs:Int):List Int:=(flg c).filter fun x=> !(b.getD x.toNat 0 !=vs)
def K7:aN:=fun args h=>
 match args,h with
 |[.agg [.int .i64 k,.view _ (.ints .i64 a) n1 1 _,.view _ (.ints .i64 b) n2 1 _,.view _ (.bools c) n3 1 _],.c (.int .i64 vs)],[]=>
  some (.c (.sl 0 0 (ofL b c vs).length 1 none),[.live (.ints .i64 (ofL b c vs))],[decide (c.length≤274877906944),decide (b.length=c.length)])
 |_,_=>none
theorem n6 (bs:List Bool) (N:Nat): ∀k i,i+k≤N→d7 (dY bs k i) N=true
 |0,_,_=>rfl
 |k+1,i,h=>by
  have:=n6 bs N k (i+1) (by omega)
  simp only[dY]
  split
  ·simp only[d7,List.all_cons,Bool.and_eq_true,rpS,decide_eq_true_eq]
   exact⟨by omega,this⟩
  ·exact this
theorem m9 (bs:List Bool):d7 (flg bs) bs.length=true:=n6 bs bs.length _ _ (by omega)
theorem n7 (bs:List Bool):(flg bs).length≤bs.length:=vC bs _ _
theorem X5:aT Tryz.prog 112 K7:=by
 intro args h res h' o hnorm he ho
 unfold K7 at he
 split at he
 case h_2=>cases he
 rename_i k nl1 a n1 cap1 nl2 b n2 cap2 nl3 c n3 cap3 vs
 simp only[Option.some.injEq,Prod.mk.injEq]at he
 obtain⟨rfl,rfl,rfl⟩:=he
 simp only[List.mem_cons,List.not_mem_nil,or_false,forall_eq_or_imp,forall_eq,decide_eq_true_eq]at ho
 obtain⟨o1,o2⟩:=ho
 simp only[bE,AV.norm,bF,aF.norm,Con.size,List.cons.injEq,AV.c.injEq,AV.agg.injEq,aF.view.injEq,aL,true_and,and_true]at hnorm
 obtain⟨⟨rfl,rfl,rfl⟩,⟨rfl,rfl,rfl⟩,rfl,rfl,rfl⟩:=hnorm
 have h1:=n7 c
 exact mo t29 (TS k a b c vs) (by simp[o1,o2,m9];omega)
theorem UK (a:Int):aD tt (a9 T29) ([]) 100 Tryz.f224 [.c (.int .i64 a)] [] []=
  some ⟨.c (.bool (a !=a)),[],true,[]⟩:=by kernel_rfl
def G4:aN:=fun args h=>
 match args,h with
 |[.c (.int .i64 a)],[]=>
  some (.c (.bool false),[],[])
 |_,_=>none
theorem a6T:aP Tryz.prog 224 G4:=by
 intro args h res h' o he ho
 unfold G4 at he
 split at he
 case h_2=>cases he
 rename_i a
 simp only[Option.some.injEq,Prod.mk.injEq]at he
 obtain⟨rfl,rfl,rfl⟩:=he
 have e:=UK a
 rw[bne_self_eq_false]at e
 exact mo t29 e rfl
noncomputable def T30:List bD:=[⟨112,[],nm K7⟩,⟨224,[],G4⟩]++T29
theorem e30:a6 Tryz.prog T30:=by
 refine a6.append ?_ e29
 intro e he
 simp only[List.mem_cons,List.not_mem_nil,or_false]at he
 rcases he with rfl|rfl
 ·exact X5.ok
 ·exact a6T
theorem t30:bJ Tryz.prog (a9 T30):=aM e30
theorem UI (a b:Int):aD tt (a9 T30) ([]) 100 Tryz.f205 [.c (.int .i64 a),.c (.int .i64 b)] [] []=
  some ⟨.c (.bool (decide (a<b))),[],true,[]⟩:=by kernel_rfl
def wI:aN:=fun args h=>
 match args,h with
 |[.c (.int .i64 a),.c (.int .i64 b)],[]=>
  some (.c (.bool (decide (a<b))),[],[])
 |_,_=>none
theorem a6K:aP Tryz.prog 205 wI:=by
 intro args h res h' o he ho
 unfold wI at he
 split at he
 case h_2=>cases he
 rename_i a b
 simp only[Option.some.injEq,Prod.mk.injEq]at he
 obtain⟨rfl,rfl,rfl⟩:=he
 exact mo t30 (UI a b) rfl
noncomputable def T31:List bD:=[⟨205,[],wI⟩]++T30
theorem e31:a6 Tryz.prog T31:=by
 refine a6.append ?_ e30
 intro e he
 simp only[List.mem_cons,List.not_mem_nil,or_false]at he
 subst he;exact a6K
theorem t31:bJ Tryz.prog (a9 T31):=aM e31
noncomputable abbrev f166:=Tryz.f199
noncomputable def lW (n:Nat) (v:List Int) (i:Int):St:=
 aY f166.ntmps [(0,.c (.sl 0 0 n 1 none)),(1,.c (.int .i64 0)),(2,.c (.int .i64 n)),(6,.c (.int .i64 i))] [.live (.ints .i64 v)]
noncomputable def KR (v:List Int):St:=aY f166.ntmps [] [.live (.ints .i64 v)]
noncomputable def uC (n:Nat) (v:List Int) (i j:Int):St:=
 aY f166.ntmps [(0,.c (.sl 0 0 n 1 none)),(1,.c (.int .i64 0)),(2,.c (.int .i64 n)),(6,.c (.int .i64 i)),(7,.c (.int .i64 j))] [.live (.ints .i64 v)]
theorem N0 (n:Nat) (v:List Int) (i j:Int):aC 1 (a8 f166 2) (aA f166 2) (aG tt (a9 T31) ([]) 1 100 (a0 2 (a5 f166)) (uC n v i j) [(0,true),(0,true)])=
  some (.normal,(rp3 (decide (j>0)) (decide (0≤j)&&(decide (j<(↑n:Int))&&(decide (j>0)&&(decide (j.toNat<v.length)&&(rp4 (decide (j>0)) (decide (0≤IntKind.i64.wrap (j-1))&&(decide (IntKind.i64.wrap (j-1)<(↑n:Int))&&(decide (j>0)&&(decide ((IntKind.i64.wrap (j-1)).toNat<v.length)&&(decide (j>0)&&((bif decide (j>0)then decide (v.getD j.toNat 0<v.getD (IntKind.i64.wrap (j-1)).toNat 0)else false)&&(decide (0≤IntKind.i64.wrap (j-1))&&(decide (IntKind.i64.wrap (j-1)<(↑n:Int))&&(decide ((IntKind.i64.wrap (j-1)).toNat<v.length)&&(decide (0≤j)&&(decide (j<(↑n:Int))&&(decide (j.toNat<v.length)&&(decide (0≤j)&&(decide (j<(↑n:Int))&&(decide (j.toNat<v.length)&&(decide (0≤IntKind.i64.wrap (j-1))&&(decide (IntKind.i64.wrap (j-1)<(↑n:Int))&&((decide ((IntKind.i64.wrap (j-1)).toNat<(v.set j.toNat (v.getD (IntKind.i64.wrap (j-1)).toNat 0)).length))&&true)))))))))))))))))))))))),[],uC n ((v.set j.toNat (v.getD (IntKind.i64.wrap (j-1)).toNat 0)).set (IntKind.i64.wrap (j-1)).toNat (v.getD j.toNat 0)) i (IntKind.i64.wrap (j-1))):=by kernel_rfl
theorem N1 (n:Nat) (v:List Int) (i j:Int):aC 1 (a8 f166 2) (aA f166 2) (aG tt (a9 T31) ([]) 1 100 (a0 2 (a5 f166)) (uC n v i j) [(0,true),(0,false)])=
  some (.exit 2,(rp3 (decide (j>0)) (decide (0≤j)&&(decide (j<(↑n:Int))&&(decide (j>0)&&(decide (j.toNat<v.length)&&(rp4 (decide (j>0)) (decide (0≤IntKind.i64.wrap (j-1))&&(decide (IntKind.i64.wrap (j-1)<(↑n:Int))&&(decide (j>0)&&(decide ((IntKind.i64.wrap (j-1)).toNat<v.length)&&(decide (j>0)&&((!bif decide (j>0)then decide (v.getD j.toNat 0<v.getD (IntKind.i64.wrap (j-1)).toNat 0)else false)&&true)))))))))))),[],lW n (v) i):=by kernel_rfl
theorem N2 (n:Nat) (v:List Int) (i j:Int):aC 1 (a8 f166 2) (aA f166 2) (aG tt (a9 T31) ([]) 1 100 (a0 2 (a5 f166)) (uC n v i j) [(0,false)])=
  some (.exit 2,((!decide (j>0))&&(rp9 (!decide (j>0)) ((!decide (j>0))&&true))),[],lW n (v) i):=by kernel_rfl
theorem SI (n:Nat) (v v':List Int) (i:Int):aC 1 (a8 f166 0) (aA f166 0) (aG tt (a9 T31) ([(2,⟨a8 f166 2,uC n v i i,.normal,lW n v' i⟩)]) 1 100 (a0 0 (a5 f166)) (lW n v i) [(0,true)])=
  some (.normal,((decide (i<(↑n:Int)))&&true),[uC n v i i=uC n v i i],lW n (v') (IntKind.i64.wrap (i+1))):=by kernel_rfl
theorem SJ (n:Nat) (v v':List Int) (i:Int) (lcv:List (Nat×LC)):aC 1 (a8 f166 0) (aA f166 0) (aG tt (a9 T31) (lcv) 1 100 (a0 0 (a5 f166)) (lW n v i) [(0,false)])=
  some (.exit 0,((!decide (i<(↑n:Int)))&&true),[],KR (v)):=by kernel_rfl
end
section
def swp (v:List Int) (j:Nat):List Int:=(v.set j (v.getD (j-1) 0)).set (j-1) (v.getD j 0)
def oV (j0 t:Nat) (v:List Int):List Int⊕List Int:=bif decide (v.getD (j0-t) 0<v.getD (j0-t-1) 0)then .inl (swp v (j0-t))else .inr v
def kA (j0:Nat) (v:List Int):List Int:=match dK (oV j0) j0 0 v with|.inl v=>v|.inr v=>v
def cS (v:List Int):List Int:=bL (fun t v=>kA (t+1) v) (v.length-1) 0 v
theorem jG (v:List Int) (j:Nat):(swp v j).length=v.length:=by simp[swp]
theorem hD {β γ:Type} {step:Nat→β→β⊕γ} (Inv:Nat→β→Prop) (Q:γ→Prop): ∀(f i:Nat) (b:β),Inv i b→
  (∀k b,i≤k→k<i+f→Inv k b→(∀b',step k b=.inl b'→Inv (k+1) b')∧ ∀c,step k b=.inr c→Q c)→match dK step f i b with|.inl b'=>Inv (i+f) b'|.inr c=>Q c
 |0,i,b,h,_=>h
 |f+1,i,b,h,hs=>by
  simp only[dK]
  have h0:=hs i b (Nat.le_refl _) (by omega) h
  cases hb:step i b with
  |inl b'=>
   have:=hD (step:=step) Inv Q f (i+1) b' (h0.1 b' hb) (fun k b h1 h2=>hs k b (by omega) (by omega))
   rw[show i+(f+1)=i+1+f from by omega]
   exact this
  |inr c=>exact h0.2 c hb
theorem zD (j:Nat) (v:List Int):(kA j v).length=v.length:=by
 have:=hD (step:=oV j) (fun _ b=>b.length=v.length) (fun c=>c.length=v.length) j 0 v rfl (fun k b _ _ hb=>by
  unfold oV
  cases decide (b.getD (j-k) 0<b.getD (j-k-1) 0)
  ·exact⟨fun b' h=>by simp at h,fun c h=>by simp at h;rw[←h];exact hb⟩
  ·exact⟨fun b' h=>by simp at h;rw[←h,jG];exact hb,fun c h=>by simp at h⟩)
 unfold kA
 revert this
 cases dK (oV j) j 0 v<;>exact fun h=>h
theorem pJ (v:List Int):(cS v).length=v.length:=bB (step:=fun t v=>kA (t+1) v) (fun _ b=>b.length=v.length) _ v rfl fun k b _ h=>by rw[zD];exact h
theorem WQ (v:List Int) (i j0:Nat) (hl:v.length≤274877906944) (hj:j0<v.length):
  aS Tryz.prog 1 (.block 2 (.loop (a0 2 (a5 f166)))) (uC v.length v i j0) fun e t=>e=.normal∧t=lW v.length (kA j0 v) i:=by
 have key:=aS.countE hT t31 bK (m:=1) (id:=2) (body:=a0 2 (a5 f166)) j0 (fun _ b=>b.length=v.length) (fun t b=>uC v.length b i (j0-t:Nat)) (fun b=>lW v.length b i) (fun b=>lW v.length b i) .normal (.inl rfl)
  (oV j0) (a8 f166 2) (aA f166 2) (fun _ _=>[]) (fun _ _ _ _=>aI.nil) (fun t b ht hb=> ?_) (fun b hb=> ?_) v rfl
 ·refine aS.mono key fun e t h=> ?_
  unfold kA
  revert h
  cases dK (oV j0) j0 0 v<;>exact fun h=>h
 ·unfold oV
  have hw:IntKind.i64.wrap (((j0-t:Nat):Int)-1)=((j0-t-1:Nat):Int):=by rw[dM (by omega) (by omega)];omega
  cases hq:decide (b.getD (j0-t) 0<b.getD (j0-t-1) 0)with
  |true=>
   refine .inl ⟨swp b (j0-t),rfl,by rw[jG];exact hb, ?_⟩
   have e:=N0 v.length b i (j0-t:Nat)
   rw[hw,Int.toNat_natCast,Int.toNat_natCast]at e
   rw[show j0-(t+1)=j0-t-1 from by omega]
   refine⟨_,_,⟨_,_,e, ?_,by simp⟩⟩
   have h0:decide (((j0-t:Nat):Int)>0)=true:=decide_eq_true (by omega)
   simp only[h0,hq,cond_true,List.length_set,Bool.true_and,rpS,Bool.and_true,Bool.and_eq_true,decide_eq_true_eq]
   omega
  |false=>
   refine .inr ⟨b,rfl, ?_⟩
   have e:=N1 v.length b i (j0-t:Nat)
   rw[hw,Int.toNat_natCast,Int.toNat_natCast]at e
   rw[if_pos rfl]
   refine⟨_,_,⟨_,_,e, ?_,by simp⟩⟩
   have h0:decide (((j0-t:Nat):Int)>0)=true:=decide_eq_true (by omega)
   simp only[h0,hq,cond_true,Bool.not_false,Bool.true_and,rpS,Bool.and_true,Bool.and_eq_true,decide_eq_true_eq]
   omega
 ·rw[Nat.sub_self]
  have e:=N2 v.length b i (0:Nat)
  exact⟨_,_,⟨_,_,e,by simp,by simp⟩⟩
theorem L5:a0 2 (a0 0 (a5 f166))=a0 2 (a5 f166):=by kernel_rfl
theorem a4Y (v:List Int) (hl:v.length≤274877906944):
  aS Tryz.prog 1 (.block 0 (.loop (a0 0 (a5 f166)))) (lW v.length v 1) fun e t=>e=.normal∧t=KR (cS v):=by
 refine aS.count hT t31 bK (v.length-1) (fun _ b=>b.length=v.length) (fun t b=>lW v.length b (1+t:Nat)) (fun b=>KR b) (fun t b=>kA (t+1) b) (a8 f166 0) (aA f166 0)
  (fun t b=>[(2,⟨a8 f166 2,uC v.length b (1+t:Nat) (1+t:Nat),.normal,lW v.length (kA (t+1) b) (1+t:Nat)⟩)]) (fun t b ht hb=> ?_) (fun t b ht hb=>⟨by rw[zD];exact hb, ?_⟩) (fun b hb=> ?_) v rfl
 ·refine aI.cons (by kernel_rfl) ?_ aI.nil
  rw[L5]
  have:=WQ b (1+t) (1+t) (by omega) (by omega)
  rw[hb]at this
  rw[Nat.add_comm 1 t]at this⊢
  exact this
 ·have e:=SI v.length b (kA (t+1) b) (1+t:Nat)
  rw[aB (by omega) (by omega)]at e
  refine⟨_,_,⟨_,_,e, ?_,by simp⟩⟩
  simp only[Bool.and_true,rpS,decide_eq_true_eq]
  omega
 ·have e:=SJ v.length b [] (1+(v.length-1):Nat) []
  refine⟨_,_,⟨_,_,e, ?_,by simp⟩⟩
  simp only[Bool.and_true,rpS,Bool.not_eq_true',decide_eq_false_iff_not]
  omega
theorem UH (v:List Int):aD tt (a9 T31) ([(0,⟨a8 f166 0,lW v.length v 1,.normal,KR (cS v)⟩)]) 100 f166 [.c (.sl 0 0 v.length 1 none),.c (.int .i64 0),.c (.int .i64 v.length)] [.live (.ints .i64 v)] []=
  some ⟨.tup [],[.live (.ints .i64 (cS v))],true,[lW v.length v 1=lW v.length v 1]⟩:=by kernel_rfl
def FY:aN:=fun args h=>
 match args,h with
 |[.c (.sl 0 0 n 1 none),.c (.int .i64 0),.c (.int .i64 n2)],[.live (.ints .i64 v)]=>
  some (.tup [],[.live (.ints .i64 (cS v))],[decide (v.length≤274877906944),decide (n=v.length),decide (n2=(v.length:Int))])
 |_,_=>none
theorem a6J:aP Tryz.prog 199 FY:=by
 intro args h res h' o he ho
 unfold FY at he
 split at he
 case h_2=>cases he
 rename_i n n2 v
 simp only[Option.some.injEq,Prod.mk.injEq]at he
 obtain⟨rfl,rfl,rfl⟩:=he
 simp only[List.mem_cons,List.not_mem_nil,or_false,forall_eq_or_imp,forall_eq,decide_eq_true_eq]at ho
 obtain⟨o1,o2,o3⟩:=ho
 subst o2 o3
 exact mo (fn:=f166) t31 (UH v) (by simp) (hlc:=(fun cc hc=>aI.cons (c:=cc) (by cases hc;kernel_rfl) (by cases hc;exact a4Y v o1) aI.nil))
noncomputable def T32:List bD:=[⟨199,[0],FY⟩]++T31
theorem e32:a6 Tryz.prog T32:=by
 refine a6.append ?_ e31
 intro e he
 simp only[List.mem_cons,List.not_mem_nil,or_false]at he
 subst he;exact a6J
theorem t32:bJ Tryz.prog (a9 T32):=aM e32
theorem UA (v:List Int) (lim:Int):aD tt (a9 T32) ([]) 100 Tryz.f174 [.c (.sl 0 0 v.length 1 none),.c (.int .i64 0),.c (.int .i64 v.length),.c (.int .i64 lim)] [.live (.ints .i64 v)] [(0,true)]=
  some ⟨.tup [],[.live (.ints .i64 (cS v))],(decide (IntKind.i64.wrap ((↑v.length:Int)-0)≤12)&&(decide (v.length≤274877906944)&&(decide (v.length=v.length)&&((decide ((↑v.length:Int)=(↑v.length:Int)))&&true)))),[]⟩:=by kernel_rfl
def G5:aN:=fun args h=>
 match args,h with
 |[.c (.sl 0 0 n 1 none),.c (.int .i64 0),.c (.int .i64 n2),.c (.int .i64 lim)],[.live (.ints .i64 v)]=>
  some (.tup [],[.live (.ints .i64 (cS v))],[decide (v.length≤12),decide (n=v.length),decide (n2=(v.length:Int))])
 |_,_=>none
theorem a5Z:aP Tryz.prog 174 G5:=by
 intro args h res h' o he ho
 unfold G5 at he
 split at he
 case h_2=>cases he
 rename_i n n2 lim v
 simp only[Option.some.injEq,Prod.mk.injEq]at he
 obtain⟨rfl,rfl,rfl⟩:=he
 simp only[List.mem_cons,List.not_mem_nil,or_false,forall_eq_or_imp,forall_eq,decide_eq_true_eq]at ho
 obtain⟨o1,o2,o3⟩:=ho
 subst o2 o3
 exact mo t32 (UA v lim) (by
  rw[Int.sub_zero,aB (by omega) (by omega)]
  simp;omega)
def WS (n:Int):Int:=[0,1,2,2,3,3,3,3,4].getD n.toNat 0
def wH:aN:=fun args h=>
 match args,h with
 |[.c (.int .u64 n)],[]=>
  some (.c (.int .i64 (WS n)),[],[bet n 0 8])
 |_,_=>none
theorem a6L:aP Tryz.prog 209 wH:=by
 intro args h res h' o he ho
 unfold wH at he
 split at he
 case h_2=>cases he
 rename_i n
 simp only[Option.some.injEq,Prod.mk.injEq]at he
 obtain⟨rfl,rfl,rfl⟩:=he
 simp only[List.mem_cons,List.not_mem_nil,or_false,forall_eq_or_imp,forall_eq,decide_eq_true_eq]at ho
 have o1:=ho
 have hb:=aX.1 o1
 have all:c7 (fun k=>k9 (aD tt (a9 T32) [] 1000 Tryz.f209 [.c (.int .u64 (k:Nat))] [] []) (WS (k:Nat))) 9=true:=by kernel_rfl
 have e:=i9 (aV all n.toNat (by omega))
 rw[show((n.toNat:Nat):Int)=n from by omega]at e
 exact mo t32 e rfl
noncomputable def T33:List bD:=[⟨174,[0],G5⟩,⟨209,[],wH⟩]++T32
theorem e33:a6 Tryz.prog T33:=by
 refine a6.append ?_ e32
 intro e he
 simp only[List.mem_cons,List.not_mem_nil,or_false]at he
 rcases he with rfl|rfl
 ·exact a5Z
 ·exact a6L
theorem t33:bJ Tryz.prog (a9 T33):=aM e33
theorem a52:aP Tryz.prog 175 (fJ tt (a9 T33) Tryz.f175 []):=dZ hT t33 bK [] (by kernel_rfl) (by kernel_rfl)
noncomputable def T34:List bD:=[⟨175,[],fJ tt (a9 T33) Tryz.f175 []⟩]++T33
theorem e34:a6 Tryz.prog T34:=by
 refine a6.append ?_ e33
 intro e he
 simp only[List.mem_cons,List.not_mem_nil,or_false]at he
 subst he;exact a52
theorem t34:bJ Tryz.prog (a9 T34):=aM e34
theorem TT (v:List Int):aD tt (a9 T34) ([]) 100 Tryz.f129 [.c (.sl 0 0 v.length 1 none)] [.live (.ints .i64 v)] []=
  some ⟨.tup [],[.live (.ints .i64 (cS v))],((bet (IntKind.u64.wrap (↑v.length:Int)) 0 8&&true)&&(decide (v.length≤12)&&(decide (v.length=v.length)&&((decide ((↑v.length:Int)=(↑v.length:Int)))&&true)))),[]⟩:=by kernel_rfl
end
section
def BI:aN:=fun args h=>
 match args,h with
 |[.c (.sl 0 0 n 1 none)],[.live (.ints .i64 v)]=>
  some (.tup [],[.live (.ints .i64 (cS v))],[decide (v.length≤8),decide (n=v.length)])
 |_,_=>none
theorem a5D:aP Tryz.prog 129 BI:=by
 intro args h res h' o he ho
 unfold BI at he
 split at he
 case h_2=>cases he
 rename_i n v
 simp only[Option.some.injEq,Prod.mk.injEq]at he
 obtain⟨rfl,rfl,rfl⟩:=he
 simp only[List.mem_cons,List.not_mem_nil,or_false,forall_eq_or_imp,forall_eq,decide_eq_true_eq]at ho
 obtain⟨o1,o2⟩:=ho
 subst o2
 exact mo t34 (TT v) (by
  have hw:IntKind.u64.wrap (v.length:Int)=v.length:=by simp[IntKind.wrap,IntKind.bits,IntKind.signed];omega
  rw[hw]
  simp[bet];omega)
def xW (n t:Nat) (v:List Int):List Int:=(v.set t (v.getD (n-1-t) 0)).set (n-1-t) (v.getD t 0)
def jC (v:List Int):List Int:=bL (xW v.length) (v.length/2) 0 v
noncomputable abbrev f114:=Tryz.f130
noncomputable def yA (n:Nat) (v:List Int) (i j:Int):St:=aY f114.ntmps [(0,.c (.sl 0 0 n 1 none)),(2,.c (.int .i64 i)),(3,.c (.int .i64 j))] [.live (.ints .i64 v)]
noncomputable def KF (v:List Int):St:=aY f114.ntmps [] [.live (.ints .i64 v)]
theorem RE (n:Nat) (v:List Int) (i j:Int):aC 1 (a8 f114 0) (aA f114 0) (aG tt (a9 T34) ([]) 1 100 (a0 0 (a5 f114)) (yA n v i j) [(0,true)])=
  some (.normal,(decide (i<j)&&(decide (0≤j)&&(decide (j<(↑n:Int))&&(decide (j.toNat<v.length)&&(decide (0≤i)&&(decide (i<(↑n:Int))&&(decide (i.toNat<v.length)&&(decide (0≤i)&&(decide (i<(↑n:Int))&&(decide (i.toNat<v.length)&&(decide (0≤j)&&(decide (j<(↑n:Int))&&((decide (j.toNat<(v.set i.toNat (v.getD j.toNat 0)).length))&&true))))))))))))),[],yA n ((v.set i.toNat (v.getD j.toNat 0)).set j.toNat (v.getD i.toNat 0)) (IntKind.i64.wrap (i+1)) (IntKind.i64.wrap (j-1))):=by kernel_rfl
theorem RF (n:Nat) (v:List Int) (i j:Int):aC 1 (a8 f114 0) (aA f114 0) (aG tt (a9 T34) ([]) 1 100 (a0 0 (a5 f114)) (yA n v i j) [(0,false)])=
  some (.exit 0,((!decide (i<j))&&true),[],KF (v)):=by kernel_rfl
theorem a4I (v:List Int) (hl:v.length≤274877906944):
  aS Tryz.prog 1 (.block 0 (.loop (a0 0 (a5 f114)))) (yA v.length v 0 ((v.length:Int)-1)) fun e t=>e=.normal∧t=KF (jC v):=by
 have key:=aS.count hT t34 bK (m:=1) (id:=0) (body:=a0 0 (a5 f114)) (v.length/2) (fun _ b=>b.length=v.length) (fun t b=>yA v.length b t ((v.length:Int)-1-t)) (fun b=>KF b) (xW v.length) (a8 f114 0) (aA f114 0)
  (fun _ _=>[]) (fun _ _ _ _=>aI.nil) (fun t b ht hb=>⟨by simp[xW,hb], ?_⟩) (fun b hb=> ?_) v rfl
 ·rw[Int.natCast_zero,Int.sub_zero]at key
  exact key
 ·have e:=RE v.length b t ((v.length:Int)-1-t)
  rw[aB (i:=(t:Int)+1) (by omega) (by omega),dM (i:=(v.length:Int)-1-t-1) (by omega) (by omega),Int.toNat_natCast,show((v.length:Int)-1-t).toNat=v.length-1-t from by omega]at e
  rw[show(v.length:Int)-1-((t+1:Nat):Int)=(v.length:Int)-1-t-1 from by omega]
  refine⟨_,_,⟨_,_,e, ?_,by simp⟩⟩
  simp only[List.length_set,Bool.and_true,rpS,Bool.and_eq_true,decide_eq_true_eq]
  omega
 ·have e:=RF v.length b (v.length/2:Nat) ((v.length:Int)-1-(v.length/2:Nat))
  refine⟨_,_,⟨_,_,e, ?_,by simp⟩⟩
  simp only[Bool.and_true,rpS,Bool.not_eq_true',decide_eq_false_iff_not]
  omega
theorem TU (v:List Int):aD tt (a9 T34) ([(0,⟨a8 f114 0,yA v.length v 0 (IntKind.i64.wrap ((v.length:Int)-1)),.normal,KF (jC v)⟩)]) 100 f114 [.c (.sl 0 0 v.length 1 none)] [.live (.ints .i64 v)] []=
  some ⟨.tup [],[.live (.ints .i64 (jC v))],true,[yA v.length v 0 (IntKind.i64.wrap ((v.length:Int)-1))=yA v.length v 0 (IntKind.i64.wrap ((v.length:Int)-1))]⟩:=by kernel_rfl
def G7:aN:=fun args h=>
 match args,h with
 |[.c (.sl 0 0 n 1 none)],[.live (.ints .i64 v)]=>
  some (.tup [],[.live (.ints .i64 (jC v))],[decide (v.length≤274877906944),decide (n=v.length)])
 |_,_=>none
theorem a5E:aP Tryz.prog 130 G7:=by
 intro args h res h' o he ho
 unfold G7 at he
 split at he
 case h_2=>cases he
 rename_i n v
 simp only[Option.some.injEq,Prod.mk.injEq]at he
 obtain⟨rfl,rfl,rfl⟩:=he
 simp only[List.mem_cons,List.not_mem_nil,or_false,forall_eq_or_imp,forall_eq,decide_eq_true_eq]at ho
 obtain⟨o1,o2⟩:=ho
 subst o2
 have g:=a4I v o1
 have e:=TU v
 rw[dM (by omega) (by omega)]at e
 exact mo (fn:=f114) t34 e (by simp) (hlc:=(fun cc hc=>aI.cons (c:=cc) (by cases hc;kernel_rfl) (by cases hc;exact g) aI.nil))
noncomputable abbrev f115:=Tryz.f131
noncomputable def qP (v:List Int) (k:Int):St:=aY f115.ntmps [(0,.c (.sl 0 0 v.length 1 none)),(3,.c (.int .i64 k))] [.live (.ints .i64 v)]
noncomputable def rX (n k0:Nat) (v:List Int) (k k2:Int):St:=
 aY f115.ntmps [(0,.c (.sl 0 0 n 1 none)),(3,.c (.int .i64 k)),(4,.c (.sl 0 k0 (n-k0) 1 none)),(5,.c (.int .i64 k2))] [.live (.ints .i64 v)]
noncomputable def GP (n:Nat) (v:List Int) (k:Int):St:=aY f115.ntmps [(0,.c (.sl 0 0 n 1 none)),(3,.c (.int .i64 k))] [.live (.ints .i64 v)]
theorem M4 (n k0:Nat) (v:List Int) (k k2:Int):aC 1 (a8 f115 2) (aA f115 2) (aG tt (a9 T34) ([]) 1 100 (a0 2 (a5 f115)) (rX n k0 v k k2) [(0,true),(0,true)])=
  some (.normal,(decide (k2<(↑(n-k0):Int))&&(decide (0≤k2)&&(decide (k2<(↑(n-k0):Int))&&(decide (k2.toNat+k0<v.length)&&(decide (0≤IntKind.i64.wrap (k2-1))&&(decide (IntKind.i64.wrap (k2-1)<(↑(n-k0):Int))&&(decide ((IntKind.i64.wrap (k2-1)).toNat+k0<v.length)&&((v.getD (k2.toNat+k0) 0 !=v.getD ((IntKind.i64.wrap (k2-1)).toNat+k0) 0)&&(decide (0≤k2)&&(decide (k2<(↑(n-k0):Int))&&(decide (k2.toNat+k0<v.length)&&(decide (0≤k)&&(decide (k<(↑n:Int))&&((decide (k.toNat<v.length))&&true)))))))))))))),[],rX n k0 (v.set k.toNat (v.getD (k2.toNat+k0) 0)) (IntKind.i64.wrap (k+1)) (IntKind.i64.wrap (k2+1))):=by kernel_rfl
theorem M5 (n k0:Nat) (v:List Int) (k k2:Int):aC 1 (a8 f115 2) (aA f115 2) (aG tt (a9 T34) ([]) 1 100 (a0 2 (a5 f115)) (rX n k0 v k k2) [(0,true),(0,false)])=
  some (.normal,(decide (k2<(↑(n-k0):Int))&&(decide (0≤k2)&&(decide (k2<(↑(n-k0):Int))&&(decide (k2.toNat+k0<v.length)&&(decide (0≤IntKind.i64.wrap (k2-1))&&(decide (IntKind.i64.wrap (k2-1)<(↑(n-k0):Int))&&(decide ((IntKind.i64.wrap (k2-1)).toNat+k0<v.length)&&((!v.getD (k2.toNat+k0) 0 !=v.getD ((IntKind.i64.wrap (k2-1)).toNat+k0) 0)&&true)))))))),[],rX n k0 (v) (k) (IntKind.i64.wrap (k2+1))):=by kernel_rfl
theorem M6 (n k0:Nat) (v:List Int) (k k2:Int):aC 1 (a8 f115 2) (aA f115 2) (aG tt (a9 T34) ([]) 1 100 (a0 2 (a5 f115)) (rX n k0 v k k2) [(0,false)])=
  some (.exit 2,((!decide (k2<(↑(n-k0):Int)))&&true),[],GP n (v) (k)):=by kernel_rfl
noncomputable def KG (n:Nat) (v:List Int):St:=aY f115.ntmps [(0,.c (.sl 0 0 n 1 none))] [.live (.ints .i64 v)]
noncomputable def KV (n:Nat) (v:List Int) (k:Nat):St:=
 aY f115.ntmps [(0,.c (.sl 0 0 n 1 none)),(2,.c (.sl 0 0 k 1 none))] [.live (.ints .i64 (v.take k++(List.replicate (n-k) 0++v.drop (k+(n-k)))))]
theorem RG (v v':List Int) (k k0:Nat):aC 1 (a8 f115 0) (aA f115 0) (aG tt (a9 T34) ([(2,⟨a8 f115 2,rX v.length k0 v k0 1,.normal,GP v.length v' k⟩)]) 1 100 (a0 0 (a5 f115)) (qP v k0) [(0,true),(0,true)])=
  some (.ret,(rp2 (decide ((↑k0:Int)<(↑v.length:Int))) (decide ((↑k0:Int).toNat<v.length)&&(decide (0≤IntKind.i64.wrap ((↑k0:Int)-1))&&(decide (IntKind.i64.wrap ((↑k0:Int)-1)<(↑v.length:Int))&&(decide ((IntKind.i64.wrap ((↑k0:Int)-1)).toNat<v.length)&&((v.getD (↑k0:Int).toNat 0==v.getD (IntKind.i64.wrap ((↑k0:Int)-1)).toNat 0)&&(decide ((↑k0:Int)≤(↑v.length:Int))&&(decide ((↑k:Int)≤(↑v.length:Int))&&(decide ((↑k:Int).toNat+(v.length-(↑k:Int).toNat)≤v'.length)&&((decide ((↑k:Int)≤(↑v.length:Int)))&&true)))))))))),[rX v.length k0 v k0 1=rX v.length k0 v k0 1],KV v.length v' k):=by kernel_rfl
theorem RH (v v':List Int) (k k0:Nat) (lcv:List (Nat×LC)):aC 1 (a8 f115 0) (aA f115 0) (aG tt (a9 T34) (lcv) 1 100 (a0 0 (a5 f115)) (qP v k0) [(0,false)])=
  some (.exit 0,((!decide ((↑k0:Int)<(↑v.length:Int)))&&true),[],KG v.length v):=by kernel_rfl
theorem M7 (v:List Int) (k0:Nat):aC 1 (a8 f115 0) (aA f115 0) (aG tt (a9 T34) ([]) 1 100 (a0 0 (a5 f115)) (qP v k0) [(0,true),(0,false)])=
  some (.normal,(rp2 (decide ((↑k0:Int)<(↑v.length:Int))) (decide ((↑k0:Int).toNat<v.length)&&(decide (0≤IntKind.i64.wrap ((↑k0:Int)-1))&&(decide (IntKind.i64.wrap ((↑k0:Int)-1)<(↑v.length:Int))&&(decide ((IntKind.i64.wrap ((↑k0:Int)-1)).toNat<v.length)&&((!v.getD (↑k0:Int).toNat 0==v.getD (IntKind.i64.wrap ((↑k0:Int)-1)).toNat 0)&&true)))))),[],qP v (IntKind.i64.wrap ((k0:Int)+1))):=by kernel_rfl
def eS (v:List Int):Nat→List Int
 |0=>[]
 |n+1=>bif Nat.beq n 0||v.getD n 0 !=v.getD (n-1) 0 then eS v n++[v.getD n 0]else eS v n
def jK (v:List Int):List Int:=eS v v.length
theorem kQ {v:List Int}: ∀(n:Nat),n≤v.length→(∀k,1≤k→k<n→(v.getD k 0==v.getD (k-1) 0)=false)→eS v n=v.take n
 |0,_,_=>by simp[eS]
 |n+1,hn,h=>by
  simp only[eS]
  rw[kQ n (by omega) (fun k h1 h2=>h k h1 (by omega)),iT hn]
  have:(Nat.beq n 0||v.getD n 0 !=v.getD (n-1) 0)=true:=by
   by_cases h0:n=0
   ·subst h0;rfl
   ·have:=h n (by omega) (by omega)
    rw[bne,this];simp
  rw[this];rfl
def xF (k0 t:Nat) (v0:List Int) (s:List Int×Nat):List Int×Nat:=bif v0.getD (k0+1+t) 0 !=v0.getD (k0+t) 0 then(s.1.set s.2 (v0.getD (k0+1+t) 0),s.2+1)else s
def y7 (v:List Int) (k0 t:Nat) (s:List Int×Nat):Prop:=s.1.length=v.length∧s.2≤k0+t∧(∀q,s.2≤q→s.1.getD q 0=v.getD q 0)∧s.1.take s.2=eS v (k0+1+t)
theorem sF {v:List Int} {k0 t:Nat} {s:List Int×Nat} (h:y7 v k0 t s) (ht:k0+1+t<v.length):y7 v k0 (t+1) (xF k0 t v s):=by
 obtain⟨h1,h2,h3,h4⟩:=h
 unfold xF
 have hc:eS v (k0+1+(t+1))=bif v.getD (k0+1+t) 0 !=v.getD (k0+t) 0 then eS v (k0+1+t)++[v.getD (k0+1+t) 0]else eS v (k0+1+t):=by
  rw[show k0+1+(t+1)=(k0+1+t)+1 from by omega]
  simp only[eS]
  rw[show k0+1+t-1=k0+t from by omega]
  have:Nat.beq (k0+1+t) 0=false:=by
   cases h:Nat.beq _ 0 with
   |false=>rfl
   |true=>have:=Nat.eq_of_beq_eq_true h;omega
  rw[this,Bool.false_or]
 unfold y7
 rw[hc]
 cases hq:v.getD (k0+1+t) 0 !=v.getD (k0+t) 0 with
 |true=>
  simp only[cond_true]
  refine⟨by simp[h1],by omega,fun q hq'=> ?_, ?_⟩
  ·rw[aU,if_neg (by omega)];exact h3 q (by omega)
  ·rw[iT (by rw[List.length_set];omega),List.take_set,List.set_eq_of_length_le (by rw[List.length_take];omega),aU,if_pos ⟨rfl,by omega⟩,h4]
 |false=>
  simp only[cond_false]
  exact⟨h1,by omega,h3,h4⟩
theorem oQ {v:List Int} {k0:Nat} (h0:1≤k0) (h1:k0<v.length) (he:(v.getD k0 0==v.getD (k0-1) 0)=true) (hd: ∀k,1≤k→k<k0→(v.getD k 0==v.getD (k-1) 0)=false):y7 v k0 0 (v,k0):=by
 refine⟨rfl,by dsimp only;omega,fun q _=>rfl, ?_⟩
 dsimp only
 rw[Nat.add_zero]
 simp only[eS]
 have hb:Nat.beq k0 0=false:=by
   cases h:Nat.beq _ 0 with
   |false=>rfl
   |true=>have:=Nat.eq_of_beq_eq_true h;omega
 rw[hb,Bool.false_or,bne,he]
 exact(kQ k0 (by omega) hd).symm
theorem WF (v:List Int) (k0:Nat) (hl:v.length≤274877906944) (h1:k0<v.length) (hi:y7 v k0 0 (v,k0)):
  aS Tryz.prog 1 (.block 2 (.loop (a0 2 (a5 f115)))) (rX v.length k0 v k0 1) fun e t=>e=.normal∧
   t=GP v.length (bL (fun t s=>xF k0 t v s) (v.length-k0-1) 0 (v,k0)).1 (bL (fun t s=>xF k0 t v s) (v.length-k0-1) 0 (v,k0)).2:=by
 refine aS.count hT t34 bK (m:=1) (id:=2) (body:=a0 2 (a5 f115)) (v.length-k0-1) (y7 v k0) (fun t s=>rX v.length k0 s.1 s.2 (1+t:Nat)) (fun s=>GP v.length s.1 s.2) (fun t s=>xF k0 t v s) (a8 f115 2) (aA f115 2)
  (fun _ _=>[]) (fun _ _ _ _=>aI.nil) (fun t s ht h=>⟨sF h (by omega), ?_⟩) (fun s h=> ?_) (v,k0) hi
 ·obtain⟨d1,d2,d3,d4⟩:=h
  have hw:IntKind.i64.wrap (((1+t:Nat):Int)-1)=(t:Nat):=by rw[dM (by omega) (by omega)];omega
  have e1:=d3 (1+t+k0) (by omega)
  have e2:=d3 (t+k0) (by omega)
  unfold xF
  rw[show k0+1+t=1+t+k0 from by omega,show k0+t=t+k0 from by omega]
  cases hq:v.getD (1+t+k0) 0 !=v.getD (t+k0) 0 with
  |true=>
   have e:=M4 v.length k0 s.1 s.2 (1+t:Nat)
   rw[hw,aB (i:=(s.2:Int)+1) (by omega) (by omega),aB (i:=((1+t:Nat):Int)+1) (by omega) (by omega),Int.toNat_natCast,Int.toNat_natCast,Int.toNat_natCast,e1,e2]at e
   refine⟨_,_,⟨_,_,e, ?_,by simp⟩⟩
   simp only[hq,Bool.true_and,rpS,Bool.and_true,Bool.and_eq_true,decide_eq_true_eq]
   omega
  |false=>
   have e:=M5 v.length k0 s.1 s.2 (1+t:Nat)
   rw[hw,aB (i:=((1+t:Nat):Int)+1) (by omega) (by omega),Int.toNat_natCast,Int.toNat_natCast,e1,e2]at e
   refine⟨_,_,⟨_,_,e, ?_,by simp⟩⟩
   simp only[hq,Bool.not_false,Bool.true_and,rpS,Bool.and_true,Bool.and_eq_true,decide_eq_true_eq]
   omega
 ·have e:=M6 v.length k0 s.1 s.2 (1+(v.length-k0-1):Nat)
  refine⟨_,_,⟨_,_,e, ?_,by simp⟩⟩
  simp only[Bool.and_true,rpS,Bool.not_eq_true',decide_eq_false_iff_not]
  omega
theorem KX:a0 2 (a0 0 (a5 f115))=a0 2 (a5 f115):=by kernel_rfl
def yU (v:List Int) (k0:Nat):List Int×Nat:=bL (fun t s=>xF k0 t v s) (v.length-k0-1) 0 (v,k0)
def xE (v:List Int) (t:Nat) (_:Unit):Unit⊕(List Int×Nat):=bif v.getD (1+t) 0==v.getD t 0 then .inr (yU v (1+t))else .inl ()
theorem a4J (v:List Int) (hl:v.length≤274877906944):
  aS Tryz.prog 1 (.block 0 (.loop (a0 0 (a5 f115)))) (qP v 1) fun e t=>match dK (xE v) (v.length-1) 0 ()with
   |.inl _=>e=.normal∧t=KG v.length v
   |.inr c=>e=.ret∧t=KV v.length c.1 c.2:=by
 have key:=aS.countE hT t34 bK (m:=1) (id:=0) (body:=a0 0 (a5 f115)) (v.length-1) (fun t _=> ∀k,1≤k→k<1+t→(v.getD k 0==v.getD (k-1) 0)=false) (fun t _=>qP v (1+t:Nat)) (fun _=>KG v.length v)
  (fun c=>KV v.length c.1 c.2) .ret (.inr rfl) (xE v) (a8 f115 0) (aA f115 0)
  (fun t _=>bif v.getD (1+t) 0==v.getD t 0 then [(2,⟨a8 f115 2,rX v.length (1+t) v (1+t:Nat) 1,.normal,GP v.length (yU v (1+t)).1 (yU v (1+t)).2⟩)]else []) (fun t _ ht h=> ?_) (fun t _ ht h=> ?_) (fun _ h=> ?_) () (fun k h1 h2=>by omega)
 ·refine aS.mono key fun e t h=> ?_
  revert h
  cases dK (xE v) (v.length-1) 0 ()<;>exact fun h=>h
 ·cases hq:v.getD (1+t) 0==v.getD t 0 with
  |true=>exact aI.cons (by kernel_rfl) (by rw[KX];exact WF v (1+t) hl (by omega) (oQ (by omega) (by omega) (by rw[show 1+t-1=t from by omega];exact hq) h)) aI.nil
  |false=>exact aI.nil
 ·have hw:IntKind.i64.wrap (((1+t:Nat):Int)-1)=(t:Nat):=by rw[dM (by omega) (by omega)];omega
  unfold xE
  cases hq:v.getD (1+t) 0==v.getD t 0 with
  |true=>
   refine .inr ⟨_,rfl, ?_⟩
   have hi:=oQ (v:=v) (k0:=1+t) (by omega) (by omega) (by rw[show 1+t-1=t from by omega];exact hq) h
   have fin:=bB (step:=fun u s=>xF (1+t) u v s) (y7 v (1+t)) (v.length-(1+t)-1) (v,1+t) hi fun u s hu h=>sF h (by omega)
   have e:=RG v (yU v (1+t)).1 (yU v (1+t)).2 (1+t)
   rw[hw,Int.toNat_natCast,Int.toNat_natCast]at e
   obtain⟨f1,f2,f3,f4⟩:=fin
   refine⟨_,_,⟨_,_,e, ?_,by simp⟩⟩
   have g1:(yU v (1+t)).1.length=v.length:=f1
   have g2:(yU v (1+t)).2≤1+t+(v.length-(1+t)-1):=f2
   simp only[hq,Int.toNat_natCast,Bool.true_and,rpS,Bool.and_true,Bool.and_eq_true,decide_eq_true_eq]
   omega
  |false=>
   refine .inl ⟨(),rfl,fun k h1 h2=> ?_, ?_⟩
   ·by_cases e:k=1+t
    ·subst e;rw[show 1+t-1=t from by omega];exact hq
    ·exact h k h1 (by omega)
   ·have e:=M7 v (1+t)
    rw[hw,Int.toNat_natCast,Int.toNat_natCast,aB (by omega) (by omega)]at e
    refine⟨_,_,⟨_,_,e, ?_,by simp⟩⟩
    simp only[hq,Bool.not_false,Bool.true_and,rpS,Bool.and_true,Bool.and_eq_true,decide_eq_true_eq]
    omega
 ·have e:=RH v [] 0 (1+(v.length-1)) []
  refine⟨_,_,⟨_,_,e, ?_,by simp⟩⟩
  simp only[Bool.and_true,rpS,Bool.not_eq_true',decide_eq_false_iff_not]
  omega
end
section
theorem NS (v:List Int):aD tt (a9 T34) ([]) 100 f115 [.c (.sl 0 0 v.length 1 none)] [.live (.ints .i64 v)] [(0,true)]=
  some ⟨.c (.sl 0 0 v.length 1 none),[.live (.ints .i64 v)],((decide ((↑v.length:Int)<2))&&true),[]⟩:=by kernel_rfl
theorem NT (v:List Int):aD tt (a9 T34) ([(0,⟨a8 f115 0,qP v 1,.normal,KG v.length v⟩)]) 100 f115 [.c (.sl 0 0 v.length 1 none)] [.live (.ints .i64 v)] [(0,false)]=
  some ⟨.c (.sl 0 0 v.length 1 none),[.live (.ints .i64 v)],((!decide ((↑v.length:Int)<2))&&true),[qP v 1=qP v 1]⟩:=by kernel_rfl
theorem NU (v v':List Int) (k:Nat):aD tt (a9 T34) ([(0,⟨a8 f115 0,qP v 1,.ret,KV v.length v' k⟩)]) 100 f115 [.c (.sl 0 0 v.length 1 none)] [.live (.ints .i64 v)] [(0,false)]=
  some ⟨.c (.sl 0 0 k 1 none),[.live (.ints .i64 (List.take k v'++(List.replicate (v.length-k) 0++List.drop (k+(v.length-k)) v')))],((!decide ((↑v.length:Int)<2))&&true),[qP v 1=qP v 1]⟩:=by kernel_rfl
def oJ:aN:=fun args h=>
 match args,h with
 |[.c (.sl 0 0 n 1 none)],[.live (.ints .i64 v)]=>
  some (.c (.sl 0 0 (jK v).length 1 none),[.live (.ints .i64 (jK v))],[decide (v.length≤274877906944),decide (n=v.length)])
 |_,_=>none
theorem HD (v:List Int):match dK (xE v) (v.length-1) 0 ()with
  |.inl _=>jK v=v
  |.inr c=>c.1.length=v.length∧c.2≤v.length∧c.1.take c.2=jK v:=by
 have:=hD (step:=xE v) (fun t _=> ∀k,1≤k→k<1+t→(v.getD k 0==v.getD (k-1) 0)=false) (fun c=>c.1.length=v.length∧c.2≤v.length∧c.1.take c.2=jK v) (v.length-1) 0 ()
  (fun k h1 h2=>by omega) (fun t _ h1 h2 h=> ?_)
 ·revert this
  cases dK (xE v) (v.length-1) 0 ()with
  |inl u=>
   intro h
   have:=kQ (v:=v) v.length (Nat.le_refl _) (fun k h1 h2=>h k h1 (by omega))
   rw[List.take_length]at this;exact this
  |inr c=>exact fun h=>h
 ·unfold xE
  cases hq:v.getD (1+t) 0==v.getD t 0 with
  |true=>
   refine⟨fun b' hb=>by simp at hb,fun c hc=> ?_⟩
   simp only[cond_true,Sum.inr.injEq]at hc
   subst hc
   have hi:=oQ (v:=v) (k0:=1+t) (by omega) (by omega) (by rw[show 1+t-1=t from by omega];exact hq) h
   have fin:=bB (step:=fun u s=>xF (1+t) u v s) (y7 v (1+t)) (v.length-(1+t)-1) (v,1+t) hi fun u s hu h=>sF h (by omega)
   obtain⟨f1,f2,f3,f4⟩:=fin
   refine⟨f1, ?_, ?_⟩
   ·have g2:(yU v (1+t)).2≤1+t+(v.length-(1+t)-1):=f2
    omega
   ·rw[show 1+t+1+(v.length-(1+t)-1)=v.length from by omega]at f4
    exact f4
  |false=>
   refine⟨fun b' _ k h3 h4=> ?_,fun c hc=>by simp at hc⟩
   by_cases e:k=1+t
   ·subst e;rw[show 1+t-1=t from by omega];exact hq
   ·exact h k h3 (by omega)
theorem a5F:aP Tryz.prog 131 oJ:=by
 intro args h res h' o he ho
 unfold oJ at he
 split at he
 case h_2=>cases he
 rename_i n v
 simp only[Option.some.injEq,Prod.mk.injEq]at he
 obtain⟨rfl,rfl,rfl⟩:=he
 simp only[List.mem_cons,List.not_mem_nil,or_false,forall_eq_or_imp,forall_eq,decide_eq_true_eq]at ho
 obtain⟨o1,o2⟩:=ho
 subst o2
 by_cases hs:(v.length:Int)<2
 ·have hc:jK v=v:=by
   have:=kQ (v:=v) v.length (Nat.le_refl _) (fun k h1 h2=>by omega)
   rw[List.take_length]at this;exact this
  rw[hc]
  exact mo (fn:=f115) t34 (NS v) (by simp[hs])
 ·have g:=a4J v o1
  have sp:=HD v
  cases hr:dK (xE v) (v.length-1) 0 ()with
  |inl u=>
   rw[hr]at g sp
   dsimp only at g sp
   rw[sp]
   exact mo (fn:=f115) t34 (NT v) (by simp[hs]) (hlc:=(fun cc hc=>aI.cons (c:=cc) (by cases hc;kernel_rfl) (by cases hc;exact g) aI.nil))
  |inr c=>
   rw[hr]at g sp
   dsimp only at g sp
   obtain⟨s1,s2,s3⟩:=sp
   have mm:=mo (f:=131) (fn:=f115) t34 (NU v c.1 c.2) (by simp[hs]) (hlc:=(fun cc hc=>aI.cons (c:=cc) (by cases hc;kernel_rfl) (by cases hc;exact g) aI.nil))
   have hlen:(jK v).length=c.2:=by rw[←s3,List.length_take];omega
   rw[hlen]
   refine mm.slots ⟨?_,trivial⟩
   have h6:(List.take c.2 c.1++(List.replicate (v.length-c.2) 0++List.drop (c.2+(v.length-c.2)) c.1)).take c.2=jK v:=by
    rw[List.take_append_of_le_length (by rw[List.length_take];omega),List.take_take,Nat.min_self];exact s3
   rw[←h6]
   exact c6.take _ _ _
noncomputable def T35:List bD:=[⟨129,[0],BI⟩,⟨130,[0],G7⟩,⟨131,[0],oJ⟩]++T34
theorem e35:a6 Tryz.prog T35:=by
 refine a6.append ?_ e34
 intro e he
 simp only[List.mem_cons,List.not_mem_nil,or_false]at he
 rcases he with rfl|rfl|rfl
 ·exact a5D
 ·exact a5E
 ·exact a5F
theorem t35:bJ Tryz.prog (a9 T35):=aM e35
noncomputable abbrev f66:=Tryz.f80
noncomputable def I66 (k:Int) (a b:List Int) (c:List Bool) (v:List Int) (n:Nat) (out:List Int) (i:Int):St:=
 aY f66.ntmps [(1,.c (.ptr 0 0 0 0)),(3,.c (.sl 1 0 n 1 none)),(9,.c (.sl 2 0 v.length 1 none)),(10,.c (.int .i64 v.length)),(11,.c (.int .i64 i))]
  [.live (.cells [.int .i64 k,.view none (.ints .i64 a) a.length 1 none,.view none (.ints .i64 b) b.length 1 none,.view none (.bools c) c.length 1 none]),.live (.ints .i64 out),.live (.ints .i64 v)]
noncomputable def X66 (n:Nat) (out:List Int):St:=aY f66.ntmps [(3,.c (.sl 0 0 n 1 none))] [.live (.ints .i64 out)]
theorem Z3 (k:Int) (a b:List Int) (c:List Bool) (v:List Int) (n:Nat) (out:List Int) (i:Int):aC 0 (a8 f66 0) (aA f66 0) (aG tt (a9 T35) ([]) 0 100 (a0 0 (a5 f66)) (I66 k a b c v n out i) [(0,true)])=
  some (.normal,(decide (i<(↑v.length:Int))&&(decide (0≤i)&&(decide (i<(↑v.length:Int))&&(decide (i.toNat<v.length)&&(decide (0≤v.getD i.toNat 0)&&(decide (v.getD i.toNat 0<(↑b.length:Int))&&(decide ((v.getD i.toNat 0).toNat<b.length)&&(decide (n=out.length)&&((decide (n+1≤274877906944))&&true))))))))),[],I66 k a b c v (n+1) (out++[b.getD (v.getD i.toNat 0).toNat 0]) (IntKind.i64.wrap (i+1))):=by kernel_rfl
theorem Z4 (k:Int) (a b:List Int) (c:List Bool) (v:List Int) (n:Nat) (out:List Int) (i:Int):aC 0 (a8 f66 0) (aA f66 0) (aG tt (a9 T35) ([]) 0 100 (a0 0 (a5 f66)) (I66 k a b c v n out i) [(0,false)])=
  some (.exit 0,((!decide (i<(↑v.length:Int)))&&true),[],X66 (n) (out)):=by kernel_rfl
def jQ (b v:List Int) (i:Nat) (out:List Int):List Int:=out++[b.getD (v.getD i 0).toNat 0]
def cM (b v:List Int):List Int:=bL (jQ b v) v.length 0 []
def bI (b:List Int) (c:List Bool):List Int:=jK (jC (cS (cM b (flg c))))
theorem a2C (k:Int) (a b:List Int) (c:List Bool):aD tt (a9 T35) ([(0,⟨a8 f66 0,I66 k a b c (flg c) 0 [] 0,.normal,X66 (cM b (flg c)).length (cM b (flg c))⟩)]) 100 f66 [.agg [.int .i64 k,.view none (.ints .i64 a) a.length 1 none,.view none (.ints .i64 b) b.length 1 none,.view none (.bools c) c.length 1 none]] [] []=
  some ⟨.c (.sl 0 0 (jK (jC (cS (cM b (flg c))))).length 1 none),[.live (.ints .i64 (jK (jC (cS (cM b (flg c))))))],(decide (c.length≤274877906944)&&(decide ((cM b (flg c)).length≤8)&&(decide ((cM b (flg c)).length=(cM b (flg c)).length)&&(decide ((cS (cM b (flg c))).length≤274877906944)&&(decide ((cM b (flg c)).length=(cS (cM b (flg c))).length)&&(decide ((jC (cS (cM b (flg c)))).length≤274877906944)&&((decide ((cM b (flg c)).length=(jC (cS (cM b (flg c)))).length))&&true))))))),[I66 k a b c (flg c) 0 [] 0=I66 k a b c (flg c) 0 [] 0]⟩:=by kernel_rfl
end
section
theorem pN (b v:List Int):(cM b v).length=v.length:=bB (step:=jQ b v) (fun i o=>o.length=i) v.length [] rfl fun i o _ h=>by simp[jQ,h]
theorem l66 (k:Int) (a b:List Int) (c:List Bool) (v:List Int) (hl:v.length≤8) (hp:d7 v b.length=true):
  aS Tryz.prog 0 (.block 0 (.loop (a0 0 (a5 f66)))) (I66 k a b c v 0 [] 0) fun e t=>e=.normal∧t=X66 (cM b v).length (cM b v):=by
 refine(aS.count hT t35 bK v.length (fun i o=>o.length=i) (fun i o=>I66 k a b c v o.length o i) (fun o=>X66 o.length o) (jQ b v) (a8 f66 0) (aA f66 0)
  (fun _ _=>[]) (fun _ _ _ _=>aI.nil) (fun i o hi h=>⟨by simp[jQ,h], ?_⟩) (fun o h=>⟨_,_,⟨_,_,Z4 k a b c v o.length o v.length,by simp,by simp⟩⟩)) [] rfl
 have hb:=gY hp hi
 have e:=Z3 k a b c v o.length o i
 rw[aB (by omega) (by omega),Int.toNat_natCast]at e
 have hlen:(jQ b v i o).length=o.length+1:=by simp[jQ]
 rw[hlen]
 refine⟨_,_,⟨_,_,e, ?_,by simp⟩⟩
 simp only[Bool.and_true,rpS,Bool.and_eq_true,decide_eq_true_eq,true_and,and_true]
 omega
theorem tF (v:List Int):(jC v).length=v.length:=bB (step:=xW v.length) (fun _ o=>o.length=v.length) _ v rfl fun i o _ h=>by simp[xW,h]
def BQ:aN:=fun args h=>
 match args,h with
 |[.agg [.int .i64 k,.view _ (.ints .i64 a) n1 1 _,.view _ (.ints .i64 b) n2 1 _,.view _ (.bools c) n3 1 _]],[]=>
  some (.c (.sl 0 0 (bI b c).length 1 none),[.live (.ints .i64 (bI b c))],[decide (c.length≤8),decide (b.length=c.length)])
 |_,_=>none
theorem m66:aT Tryz.prog 80 BQ:=by
 intro args h res h' o hnorm he ho
 unfold BQ at he
 split at he
 case h_2=>cases he
 rename_i k nl1 a n1 cap1 nl2 b n2 cap2 nl3 c n3 cap3
 simp only[Option.some.injEq,Prod.mk.injEq]at he
 obtain⟨rfl,rfl,rfl⟩:=he
 simp only[List.mem_cons,List.not_mem_nil,or_false,forall_eq_or_imp,forall_eq,decide_eq_true_eq]at ho
 obtain⟨o1,o2⟩:=ho
 simp only[bE,AV.norm,bF,aF.norm,Con.size,List.cons.injEq,AV.c.injEq,AV.agg.injEq,aF.view.injEq,aL,true_and,and_true]at hnorm
 obtain⟨⟨rfl,rfl,rfl⟩,⟨rfl,rfl,rfl⟩,rfl,rfl,rfl⟩:=hnorm
 have h1:=n7 c
 have g:=l66 k a b c (flg c) (by omega) (by rw[o2];exact m9 c)
 exact mo (fn:=f66) t35 (a2C k a b c) (by simp[pN,pJ,tF];omega) (hlc:=(fun cc hc=>aI.cons (c:=cc) (by cases hc;kernel_rfl) (by cases hc;exact g) aI.nil))
noncomputable def T36:List bD:=[⟨80,[],nm BQ⟩]++T35
theorem e36:a6 Tryz.prog T36:=by
 refine a6.append ?_ e35
 intro e he
 simp only[List.mem_cons,List.not_mem_nil,or_false]at he
 subst he;exact m66.ok
theorem t36:bJ Tryz.prog (a9 T36):=aM e36
theorem a2H (k:Int) (a b:List Int) (c:List Bool):aD tt (a9 T36) ([]) 100 Tryz.f69 [.agg [.int .i64 k,.view none (.ints .i64 a) a.length 1 none,.view none (.ints .i64 b) b.length 1 none,.view none (.bools c) c.length 1 none]] [] [(0,true)]=
  some ⟨.c (.int .i64 ((bI b c).getD 0 0)),[],(decide (c.length≤8)&&(decide (b.length=c.length)&&(rp2 (decide (0<(↑(bI b c).length:Int))) ((decide (0<(bI b c).length))&&true)))),[]⟩:=by kernel_rfl
theorem a2I (k:Int) (a b:List Int) (c:List Bool):aD tt (a9 T36) ([]) 100 Tryz.f69 [.agg [.int .i64 k,.view none (.ints .i64 a) a.length 1 none,.view none (.ints .i64 b) b.length 1 none,.view none (.bools c) c.length 1 none]] [] [(0,false)]=
  some ⟨.c (.int .i64 0),[],(decide (c.length≤8)&&(decide (b.length=c.length)&&((!decide (0<(↑(bI b c).length:Int)))&&true))),[]⟩:=by kernel_rfl
def gH (b:List Int) (c:List Bool):Int:=(bI b c).getD 0 0
def GF:aN:=fun args h=>
 match args,h with
 |[.agg [.int .i64 k,.view _ (.ints .i64 a) n1 1 _,.view _ (.ints .i64 b) n2 1 _,.view _ (.bools c) n3 1 _]],[]=>
  some (.c (.int .i64 (gH b c)),[],[decide (c.length≤8),decide (b.length=c.length)])
 |_,_=>none
theorem m73:aT Tryz.prog 69 GF:=by
 intro args h res h' o hnorm he ho
 unfold GF at he
 split at he
 case h_2=>cases he
 rename_i k nl1 a n1 cap1 nl2 b n2 cap2 nl3 c n3 cap3
 simp only[Option.some.injEq,Prod.mk.injEq]at he
 obtain⟨rfl,rfl,rfl⟩:=he
 simp only[List.mem_cons,List.not_mem_nil,or_false,forall_eq_or_imp,forall_eq,decide_eq_true_eq]at ho
 obtain⟨o1,o2⟩:=ho
 simp only[bE,AV.norm,bF,aF.norm,Con.size,List.cons.injEq,AV.c.injEq,AV.agg.injEq,aF.view.injEq,aL,true_and,and_true]at hnorm
 obtain⟨⟨rfl,rfl,rfl⟩,⟨rfl,rfl,rfl⟩,rfl,rfl,rfl⟩:=hnorm
 by_cases h0:0<((bI b c).length:Int)
 ·exact mo t36 (a2H k a b c) (by simp only[Bool.and_eq_true,rpS,decide_eq_true_eq,Bool.and_true];omega)
 ·have hz:gH b c=0:=by
   have:bI b c=[]:=List.eq_nil_of_length_eq_zero (by omega)
   unfold gH;rw[this];rfl
  rw[hz]
  exact mo t36 (a2I k a b c) (by simp only[Bool.and_eq_true,rpS,decide_eq_true_eq,Bool.and_true,Bool.not_eq_true',decide_eq_false_iff_not];omega)
theorem a6Z:aP Tryz.prog 134 (fJ tt (a9 T36) Tryz.f134 []):=dZ hT t36 bK [] (by kernel_rfl) (by kernel_rfl)
noncomputable def T37:List bD:=[⟨69,[],nm GF⟩,⟨134,[1],fJ tt (a9 T36) Tryz.f134 []⟩]++T36
theorem e37:a6 Tryz.prog T37:=by
 refine a6.append ?_ e36
 intro e he
 simp only[List.mem_cons,List.not_mem_nil,or_false]at he
 rcases he with rfl|rfl
 ·exact m73.ok
 ·exact a6Z
theorem t37:bJ Tryz.prog (a9 T37):=aM e37
noncomputable abbrev eW:=Tryz.f176
noncomputable def jJ (k:Int) (n1 n2 n3:Nat) (nl1 nl2 nl3:Option Bool) (cap1 cap2 cap3:Option Nat) (a b:List Int) (c:List Bool) (v:List Int) (i:Int):St:=
 aY eW.ntmps [(0,.c (.sl 0 0 v.length 1 none)),(1,.c (.fn 134 [.ptr 1 0 0 0])),(7,.c (.int .i64 v.length)),(8,.c (.int .i64 i))] [.live (.ints .i64 v),.live (.cells [.int .i64 k,.view nl1 (.ints .i64 a) n1 1 cap1,.view nl2 (.ints .i64 b) n2 1 cap2,.view nl3 (.bools c) n3 1 cap3])]
noncomputable def GO (k:Int) (n1 n2 n3:Nat) (nl1 nl2 nl3:Option Bool) (cap1 cap2 cap3:Option Nat) (a b:List Int) (c:List Bool) (v:List Int):St:=aY eW.ntmps [] [.live (.ints .i64 v),.live (.cells [.int .i64 k,.view nl1 (.ints .i64 a) n1 1 cap1,.view nl2 (.ints .i64 b) n2 1 cap2,.view nl3 (.bools c) n3 1 cap3])]
noncomputable def GU (k:Int) (n1 n2 n3:Nat) (nl1 nl2 nl3:Option Bool) (cap1 cap2 cap3:Option Nat) (a b:List Int) (c:List Bool) (v:List Int) (i:Int):St:=aY eW.ntmps [(4,.c (.int .i64 i))] [.live (.ints .i64 v),.live (.cells [.int .i64 k,.view nl1 (.ints .i64 a) n1 1 cap1,.view nl2 (.ints .i64 b) n2 1 cap2,.view nl3 (.bools c) n3 1 cap3])]
theorem MT (k:Int) (n1 n2 n3:Nat) (nl1 nl2 nl3:Option Bool) (cap1 cap2 cap3:Option Nat) (a b:List Int) (c:List Bool) (v:List Int) (i:Int):aC 2 (a8 eW 0) (aA eW 0) (aG tt (a9 T37) ([]) 2 100 (a0 0 (a5 eW)) (jJ k n1 n2 n3 nl1 nl2 nl3 cap1 cap2 cap3 a b c v i) [(0,true),(0,true)])=
  some (.ret,(decide (i<(↑v.length:Int))&&(decide (0≤i)&&(decide (i<(↑v.length:Int))&&(decide (i.toNat<v.length)&&((decide (c.length≤274877906944)&&(decide (b.length=c.length)&&(decide ((ofL b c (v.getD i.toNat 0)).length=(ofL b c (v.getD i.toNat 0)).length)&&(decide ((ofL b c (v.getD i.toNat 0)).length≤8)&&(bet k 1 2&&(aK (ofL b c (v.getD i.toNat 0))&&(decide (a.length=8)&&(a7 a&&(dP k a (ofL b c (v.getD i.toNat 0))&&true)))))))))&&((!cE k a (ofL b c (v.getD i.toNat 0)))&&true)))))),[],GU k n1 n2 n3 nl1 nl2 nl3 cap1 cap2 cap3 a b c v (i)):=by kernel_rfl
theorem MU (k:Int) (n1 n2 n3:Nat) (nl1 nl2 nl3:Option Bool) (cap1 cap2 cap3:Option Nat) (a b:List Int) (c:List Bool) (v:List Int) (i:Int):aC 2 (a8 eW 0) (aA eW 0) (aG tt (a9 T37) ([]) 2 100 (a0 0 (a5 eW)) (jJ k n1 n2 n3 nl1 nl2 nl3 cap1 cap2 cap3 a b c v i) [(0,true),(0,false)])=
  some (.normal,(decide (i<(↑v.length:Int))&&(decide (0≤i)&&(decide (i<(↑v.length:Int))&&(decide (i.toNat<v.length)&&((decide (c.length≤274877906944)&&(decide (b.length=c.length)&&(decide ((ofL b c (v.getD i.toNat 0)).length=(ofL b c (v.getD i.toNat 0)).length)&&(decide ((ofL b c (v.getD i.toNat 0)).length≤8)&&(bet k 1 2&&(aK (ofL b c (v.getD i.toNat 0))&&(decide (a.length=8)&&(a7 a&&(dP k a (ofL b c (v.getD i.toNat 0))&&true)))))))))&&((!!cE k a (ofL b c (v.getD i.toNat 0)))&&true)))))),[],jJ k n1 n2 n3 nl1 nl2 nl3 cap1 cap2 cap3 a b c v (IntKind.i64.wrap (i+1))):=by kernel_rfl
theorem MV (k:Int) (n1 n2 n3:Nat) (nl1 nl2 nl3:Option Bool) (cap1 cap2 cap3:Option Nat) (a b:List Int) (c:List Bool) (v:List Int) (i:Int):aC 2 (a8 eW 0) (aA eW 0) (aG tt (a9 T37) ([]) 2 100 (a0 0 (a5 eW)) (jJ k n1 n2 n3 nl1 nl2 nl3 cap1 cap2 cap3 a b c v i) [(0,false)])=
  some (.exit 0,((!decide (i<(↑v.length:Int)))&&true),[],GO k n1 n2 n3 nl1 nl2 nl3 cap1 cap2 cap3 a b c v):=by kernel_rfl
noncomputable def OR (k:Int) (n1 n2 n3:Nat) (nl1 nl2 nl3:Option Bool) (cap1 cap2 cap3:Option Nat) (a b:List Int) (c:List Bool) (v:List Int):Option Nat→St
 |some j=>GU k n1 n2 n3 nl1 nl2 nl3 cap1 cap2 cap3 a b c v j
 |none=>GO k n1 n2 n3 nl1 nl2 nl3 cap1 cap2 cap3 a b c v
theorem WO (k:Int) (n1 n2 n3:Nat) (nl1 nl2 nl3:Option Bool) (cap1 cap2 cap3:Option Nat) (a b:List Int) (c:List Bool) (v:List Int) (hl:v.length≤274877906944) (hc:c.length≤274877906944) (hbc:b.length=c.length) (hkd:bet k 1 2=true) (ha:a.length=8) (haf:a7 a=true) (hok: ∀i,i<v.length→(ofL b c (v.getD i 0)).length≤8∧aK (ofL b c (v.getD i 0))=true∧dP k a (ofL b c (v.getD i 0))=true):
  aS Tryz.prog 2 (.block 0 (.loop (a0 0 (a5 eW)))) (jJ k n1 n2 n3 nl1 nl2 nl3 cap1 cap2 cap3 a b c v 0) fun e t=>e=qV (dQ (fun x=> !cE k a (ofL b c x)) v)∧t=OR k n1 n2 n3 nl1 nl2 nl3 cap1 cap2 cap3 a b c v (dQ (fun x=> !cE k a (ofL b c x)) v):=by
 refine aS.roundsR hT t37 bK (m:=2) (id:=0) (body:=a0 0 (a5 eW)) (α:=Nat)
  (fun i=>i≤v.length∧dA (fun x=> !cE k a (ofL b c x)) v (v.length-i) i=dQ (fun x=> !cE k a (ofL b c x)) v) (fun i=>jJ k n1 n2 n3 nl1 nl2 nl3 cap1 cap2 cap3 a b c v i) (fun i=>v.length-i) (a8 eW 0) (aA eW 0)
  (fun _=>qV (dQ (fun x=> !cE k a (ofL b c x)) v)) (fun _=>OR k n1 n2 n3 nl1 nl2 nl3 cap1 cap2 cap3 a b c v (dQ (fun x=> !cE k a (ofL b c x)) v)) (fun _=>[]) (fun _ _=>aI.nil) (fun i hx=> ?_) 0 ⟨by simp,rfl⟩
 obtain⟨h1,h3⟩:=hx
 by_cases hi:i<v.length
 ·have hk:v.length-i=(v.length-(i+1))+1:=by omega
  rw[hk]at h3
  simp only[dA]at h3
  obtain⟨ho1,ho2,ho3⟩:=hok i hi
  cases hz:(fun x=> !cE k a (ofL b c x)) (v.getD i 0)with
  |false=>
   dsimp only at hz
   rw[hz]at h3
   have e:=MU k n1 n2 n3 nl1 nl2 nl3 cap1 cap2 cap3 a b c v i
   rw[aB (by omega) (by omega),Int.toNat_natCast]at e
   refine⟨_,_,_,_,_,_,e, ?_,by simp,.inl ⟨rfl,i+1,⟨by omega,by simpa using h3⟩,by omega,rfl,rfl,rfl⟩⟩
   simp only[hz,ho2,ho3,hkd,haf,Bool.not_false,Bool.true_and,rpS,Bool.and_true,Bool.and_eq_true,decide_eq_true_eq,true_and,and_true]
   omega
  |true=>
   dsimp only at hz
   rw[hz]at h3
   simp only[cond_true]at h3
   have e:=MT k n1 n2 n3 nl1 nl2 nl3 cap1 cap2 cap3 a b c v i
   rw[Int.toNat_natCast]at e
   refine⟨_,_,_,_,_,_,e, ?_,by simp,.inr (.inr ⟨by simp,by simp, ?_, ?_⟩)⟩
   ·simp only[hz,ho2,ho3,hkd,haf,Bool.true_and,rpS,Bool.and_true,Bool.and_eq_true,decide_eq_true_eq,true_and,and_true]
    omega
   ·rw[←h3];rfl
   ·rw[←h3];rfl
 ·have hz:v.length-i=0:=by omega
  rw[hz]at h3
  simp only[dA]at h3
  exact⟨_,_,_,_,_,_,MV k n1 n2 n3 nl1 nl2 nl3 cap1 cap2 cap3 a b c v i,by simp;omega,by simp,.inr (.inl ⟨rfl,by rw[←h3];rfl,by rw[←h3];rfl⟩)⟩
end
section
theorem A0 {β γ:Type} {s:Nat→β→β} {s':Nat→γ→γ} (R:Nat→β→γ→Prop): ∀(f i:Nat) (b:β) (c:γ),R i b c→(∀k b c,i≤k→k<i+f→R k b c→R (k+1) (s k b) (s' k c))→R (i+f) (bL s f i b) (bL s' f i c)
 |0,i,b,c,h,_=>h
 |f+1,i,b,c,h,hs=>by
  have:=A0 (s:=s) (s':=s') R f (i+1) (s i b) (s' i c) (hs i b c (Nat.le_refl _) (by omega) h) (fun k b c h1 h2=>hs k b c (by omega) (by omega))
  rw[show i+(f+1)=i+1+f from by omega]
  exact this
theorem vV {β γ:Type} {s:Nat→β→β} {s':Nat→γ→γ} (R:Nat→β→γ→Prop) (n:Nat) (b:β) (c:γ) (h:R 0 b c) (hs: ∀k b c,k<n→R k b c→R (k+1) (s k b) (s' k c)):R n (bL s n 0 b) (bL s' n 0 c):=by
 have:=A0 R n 0 b c h (fun k b c _ h2=>hs k b c (by omega))
 rwa[Nat.zero_add]at this
def fK (n:Nat) (zs zs':List Int):Prop:=zs.length=n*5∧zs'.length=n*5∧ ∀j,j<n→ ∀q,q<4→zs.getD (j*5+q) 0=zs'.getD (j*5+q) 0
theorem fK.ld {n:Nat} {zs zs':List Int} (h:fK n zs zs') {i:Nat} (hi:i<n):ld5 zs i=ld5 zs' i:=by
 unfold ld5
 have h0:=h.2.2 i hi 0 (by omega)
 rw[Nat.add_zero]at h0
 rw[h0,h.2.2 i hi 1 (by omega),h.2.2 i hi 2 (by omega),h.2.2 i hi 3 (by omega)]
theorem CV (w w' v ys:List Int) (r:Nat):fK r (lT w v ys r) (lT w' v ys r):=by
 refine vV (fun i zs zs'=>fK i zs zs') r [] [] ⟨rfl,rfl,fun j hj=>by omega⟩ fun k zs zs' hk h=> ?_
 obtain⟨h1,h2,h3⟩:=h
 refine⟨by simp[jP,h1];omega,by simp[jP,h2];omega,fun j hj q hq=> ?_⟩
 unfold jP
 rw[dV,dV,h1,h2]
 by_cases e:j*5+q<k*5
 ·rw[if_pos e,if_pos e];exact h3 j (by omega) q hq
 ·rw[if_neg e,if_neg e]
  have:j=k:=by omega
  subst this
  rw[show j*5+q-j*5=q from by omega]
  match q,hq with
  |0,_|1,_|2,_|3,_=>rfl
theorem gP {n:Nat} {zs:List Int} (hz:zs.length=n*5) {i j:Nat} {at_:Int} (hj:j<n) {p q:Nat} (hp:p<n) (hq:q<4):
  (mY zs i at_ j).getD (p*5+q) 0=if p=j then elE zs i j at_ q else zs.getD (p*5+q) 0:=by
 unfold mY lJ JS
 by_cases e:p=j
 ·subst e
  rw[if_pos rfl]
  match q,hq with
  |0,_=>
   rw[aU,if_neg (by omega),aU,if_neg (by omega),aU,if_neg (by omega),aU,if_neg (by omega),aU,if_pos ⟨by omega,by omega⟩]
  |1,_=>
   rw[aU,if_neg (by omega),aU,if_neg (by omega),aU,if_neg (by omega),aU,if_pos ⟨by omega,by simp;omega⟩]
  |2,_=>
   rw[aU,if_neg (by omega),aU,if_neg (by omega),aU,if_pos ⟨by omega,by simp;omega⟩]
  |3,_=>
   rw[aU,if_neg (by omega),aU,if_pos ⟨by omega,by simp;omega⟩]
 ·rw[if_neg e]
  rw[aU,if_neg (by omega),aU,if_neg (by omega),aU,if_neg (by omega),aU,if_neg (by omega),aU,if_neg (by omega)]
theorem C5 {n i j:Nat} {at_:Int} {zs zs':List Int} (h:fK n zs zs') (hi:i<n) (hj:j<n) (ha:bet at_ 0 3=true):fK n (jM i at_ j zs) (jM i at_ j zs'):=by
 have ha':=aX.1 ha
 obtain⟨h1,h2,h3⟩:=h
 have hc:elC zs at_ j=elC zs' at_ j:=by
  unfold elC
  rw[Nat.mul_one]
  exact h3 j hj _ (by omega)
 unfold jM
 rw[hc]
 cases ((j:Int)!=(i:Int))&&(elC zs' at_ j !=0)
 ·exact⟨h1,h2,h3⟩
 ·refine⟨by rw[cond_true,kT];exact h1,by rw[cond_true,kT];exact h2,fun p hp q hq=> ?_⟩
  rw[cond_true,cond_true,gP h1 hj hp hq,gP h2 hj hp hq]
  split
  ·unfold elE;rw[h3 j hj q hq,h3 i hi q hq,hc]
  ·exact h3 p hp q hq
theorem C3 {n i:Nat} {at_:Int} {zs zs':List Int} (h:fK n zs zs') (hi:i<n) (ha:bet at_ 0 3=true):fK n (v9 n i at_ zs) (v9 n i at_ zs'):=
 vV (fun _ zs zs'=>fK n zs zs') n zs zs' h fun j zs zs' hj h=>C5 h hi hj ha
theorem nR {n:Nat}: ∀(f i:Nat) {zs zs':List Int},fK n zs zs'→i+f≤n→hR n f i zs'=true→hR n f i zs=true∧fK n (bL (lF n) f i zs) (bL (lF n) f i zs')
 |0,i,zs,zs',h,_,_=>⟨rfl,h⟩
 |f+1,i,zs,zs',h,hi,hr=>by
  simp only[hR,Bool.and_eq_true,rpS]at hr⊢
  have hl:=h.ld (i:=i) (by omega)
  have h':fK n (lF n i zs) (lF n i zs'):=by
   unfold lF;rw[hl];exact C3 h (by omega) hr.1
  have:=nR f (i+1) h' (by omega) hr.2
  rw[hl]
  exact⟨⟨hr.1,this.1⟩,this.2⟩
theorem tQ {k:Int} {w w' v:List Int} (h:dP k w' v=true):dP k w v=true∧fK (spK k v).2.length (eH k w v) (eH k w' v):=by
 simp only[dP,Bool.and_eq_true,rpS,JH]at h⊢
 have t:=CV w w' v (spK k v).1 (spK k v).2.length
 have r:=nR _ 0 t (by omega) h.1
 refine⟨⟨r.1, ?_⟩,r.2⟩
 refine mP fun i hi=> ?_
 have hl:=fK.ld (zs:=eH k w v) (zs':=eH k w' v) r.2 hi
 rw[hl]
 exact aV h.2 i hi
def cZ (m:Nat):List Bool:=[m.testBit 0,m.testBit 1,m.testBit 2,m.testBit 3,m.testBit 4,m.testBit 5,m.testBit 6,m.testBit 7]
def z8:List Int:=[0,0,0,0,0,0,0,0]
def yO (b:Bool) (n:Nat):Nat:=bif b then n else 0
theorem nJ (c:List Bool) (h:c.length=8): ∃m,m<256∧cZ m=c:=by
 match c,h with
 |[a,b,c,d,e,f,g,h],_=>
  refine⟨yO a 1+yO b 2+yO c 4+yO d 8+yO e 16+yO f 32+yO g 64+yO h 128, ?_, ?_⟩
  ·cases a<;>cases b<;>cases c<;>cases d<;>cases e<;>cases f<;>cases g<;>cases h<;>decide
  ·cases a<;>cases b<;>cases c<;>cases d<;>cases e<;>cases f<;>cases g<;>cases h<;>decide
end
end Go.Proofs.YthapjdpkelihiaaGreat.Am
