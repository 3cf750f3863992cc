/- DERIVED. Part 7 of the proof: C42, C43, C44. No statement of the program is proved here. -/
import Derived.Test.YthapjdpkelihiaaGreatX06
set_option linter.unusedSimpArgs false
set_option linter.unusedVariables false
set_option linter.unusedSectionVars false
section
namespace Go.Proofs.YthapjdpkelihiaaGreat.Am
def rowOk (L:Nat) (r:List Int):Bool:=decide (r.length=L)&&(allFok r&&decide (0≤leadL r))
def tdOk (L:Nat) (ti:List (List Int)):Bool:=ti.all (rowOk L)
theorem tdOk_get {L:Nat} {ti:List (List Int)} (h:tdOk L ti=true) {i:Nat} (hi:i<ti.length):(ti.getD i []).length=L∧allFok (ti.getD i [])=true∧0≤leadL (ti.getD i []):=by
 rw[List.getD_eq_getElem?_getD,List.getElem?_eq_getElem hi]
 have:=List.all_eq_true.1 h _ (List.getElem_mem hi)
 simpa only[rowOk,Bool.and_eq_true,decide_eq_true_eq,Option.getD_some]using this
def rdS3 (ti:List (List Int)) (i:Nat) (v:List Int):List Int:=nlL v (ti.getD i [])
def rdL3 (ti:List (List Int)) (v:List Int):List Int:=runN (rdS3 ti) ti.length 0 v
theorem rdL3_ok {ti:List (List Int)} {v:List Int} (hv:allFok v=true):(rdL3 ti v).length=v.length∧allFok (rdL3 ti v)=true:=
 runN_inv0 (step:=rdS3 ti) (fun _ x=>x.length=v.length∧allFok x=true) _ v ⟨rfl,hv⟩ fun i x _ h=>⟨by rw[rdS3,nlL_len];exact h.1,nlL_fok _ _⟩
theorem l153 (ti:List (List Int)) (v:List Int) (L:Nat) (hL:L≤274877906944) (hn:ti.length≤1000) (ht:tdOk L ti=true) (hv:v.length=L) (hf:allFok v=true):
  Good Tryz.prog 0 (.block 0 (.loop (bodyAt 0 (codeOf f153)))) (I153 ti v v.length 0) fun e t=>e=.normal∧t=X153 ti (rdL3 ti v) (rdL3 ti v).length:=by
 refine Good.count hT t47 hmix ti.length (fun _ x=>x.length=L∧allFok x=true) (fun i x=>I153 ti x x.length i) (fun x=>X153 ti x x.length) (rdS3 ti) (liveH f153 0) (liveB' f153 0)
  (fun _ _=>[]) (fun _ _ _ _=>LcOk.nil) (fun i x hi h=>⟨⟨by rw[rdS3,nlL_len];exact h.1,nlL_fok _ _⟩, ?_⟩) (fun x h=>⟨_,_,⟨_,_,r153_2 ti x x.length ti.length,by simp,by simp⟩⟩) v ⟨hv,hf⟩
 obtain⟨g1,g2,g3⟩:=tdOk_get ht hi
 have e:=r153_1 ti x x.length i
 rw[wrap_small (by omega) (by omega),Int.toNat_natCast]at e
 have hlen:(rdS3 ti i x).length=x.length:=nlL_len _ _
 rw[hlen]
 refine⟨_,_,⟨_,_,e, ?_,by simp⟩⟩
 simp only[h.2,g2,bS]
 omega
def addS (ti:List (List Int)) (v:List Int) (ld:Int) (i:Nat) (s:List (List Int)×Bool):List (List Int)×Bool:=
 bif !s.2&&decide (leadL (ti.getD i [])>ld)then(s.1++[v]++[nlL (ti.getD i []) v],true)else(s.1++[nlL (ti.getD i []) v],s.2)
def addR (ti:List (List Int)) (v:List Int) (ld:Int):List (List Int)×Bool:=runN (addS ti v ld) ti.length 0 ([],false)
theorem l153b (ti:List (List Int)) (v:List Int) (n L:Nat) (ld:Int) (hL:L≤274877906944) (hn:ti.length≤1000) (ht:tdOk L ti=true) (hv:v.length=L) (hf:allFok v=true) (h0:0≤leadL v):
  Good Tryz.prog 0 (.block 2 (.loop (bodyAt 2 (codeOf f153)))) (J153 ti v n ld 0 [] false 0) fun e t=>e=.normal∧t=Y153 v n (addR ti v ld).1.length (addR ti v ld).1 (addR ti v ld).2:=by
 refine(Good.count hT t47 hmix ti.length (fun i s=>s.1.length≤2*i) (fun i s=>J153 ti v n ld s.1.length s.1 s.2 i) (fun s=>Y153 v n s.1.length s.1 s.2) (addS ti v ld) (liveH f153 2) (liveB' f153 2)
  (fun _ _=>[]) (fun _ _ _ _=>LcOk.nil) (fun i s hi h=> ?_) (fun s h=>⟨_,_,⟨_,_,r153b_4 ti v n ld s.1.length s.1 s.2 ti.length,by simp,by simp⟩⟩)) ([],false) (by simp)
 obtain⟨g1,g2,g3⟩:=tdOk_get ht hi
 obtain⟨out,put⟩:=s
 dsimp only at h⊢
 unfold addS
 cases hp:put with
 |true=>
  refine⟨by simp;omega, ?_⟩
  have e:=r153b_3 ti v n ld out.length out true i
  rw[wrap_small (by omega) (by omega),Int.toNat_natCast]at e
  simp only[Bool.not_true,Bool.false_and,cond_false,List.length_append,List.length_cons,List.length_nil]
  refine⟨_,_,⟨_,_,e, ?_,by simp⟩⟩
  simp only[hf,g2,h0,bS]
  omega
 |false=>
  cases hl:decide (leadL (ti.getD i [])>ld)with
  |true=>
   refine⟨by simp;omega, ?_⟩
   have e:=r153b_1 ti v n ld out.length out false i
   rw[wrap_small (by omega) (by omega),Int.toNat_natCast]at e
   simp only[Bool.not_false,Bool.true_and,cond_true,List.length_append,List.length_cons,List.length_nil]
   refine⟨_,_,⟨_,_,e, ?_,by simp⟩⟩
   simp only[hl,hf,g2,h0,List.length_append,List.length_cons,List.length_nil,bS]
   omega
  |false=>
   refine⟨by simp;omega, ?_⟩
   have e:=r153b_2 ti v n ld out.length out false i
   rw[wrap_small (by omega) (by omega),Int.toNat_natCast]at e
   simp only[Bool.not_false,Bool.true_and,cond_false,List.length_append,List.length_cons,List.length_nil]
   refine⟨_,_,⟨_,_,e, ?_,by simp⟩⟩
   simp only[hl,hf,g2,h0,bS]
   omega
def oneL (v:List Int):List Int:=scaleL v (inv (v.getD (leadL v).toNat 0))
def addL (ti:List (List Int)) (v:List Int):List (List Int):=
 bif decide (leadL (rdL3 ti v)<0)then ti else
  (bif (addR ti (oneL (rdL3 ti v)) (leadL (rdL3 ti v))).2 then(addR ti (oneL (rdL3 ti v)) (leadL (rdL3 ti v))).1 else(addR ti (oneL (rdL3 ti v)) (leadL (rdL3 ti v))).1++[oneL (rdL3 ti v)])
theorem x153_2 (ti:List (List Int)) (v v':List Int) (out:List (List Int)) (put:Bool):evalF tt (ctOf T47) ([(0,⟨liveH f153 0,I153 ti v v.length 0,.normal,X153 ti v' v'.length⟩),(2,⟨liveH f153 2,J153 ti (oneL v') v'.length (leadL v') 0 [] false 0,.normal,Y153 (oneL v') v'.length out.length out put⟩)]) 100 f153 [.c (.view none (.ivs .i64 ti) ti.length 1 none),.c (.view none (.ints .i64 v) v.length 1 none)] [] [(0,false),(0,true)]=
  some ⟨.c (.sl 0 0 (out.length+1) 1 none),[.live (.ivs .i64 (out++[oneL v']))],(decide (v'.length≤274877906944)&&(!decide (leadL v'<0)&&(decide (0≤leadL v')&&(decide (leadL v'<(↑v'.length:Int))&&(decide ((leadL v').toNat<v'.length)&&(fok (v'.getD (leadL v').toNat 0)&&(decide (v'.length≤274877906944)&&(allFok v'&&(fok (inv (v'.getD (leadL v').toNat 0))&&((!put)&&(decide (out.length=out.length)&&((decide (out.length+1≤274877906944))&&true)))))))))))),[I153 ti v v.length 0=I153 ti v v.length 0,J153 ti (oneL v') v'.length (leadL v') 0 [] false 0=J153 ti (oneL v') v'.length (leadL v') 0 [] false 0]⟩:=by kernel_rfl
theorem x153_3 (ti:List (List Int)) (v v':List Int) (out:List (List Int)) (put:Bool):evalF tt (ctOf T47) ([(0,⟨liveH f153 0,I153 ti v v.length 0,.normal,X153 ti v' v'.length⟩),(2,⟨liveH f153 2,J153 ti (oneL v') v'.length (leadL v') 0 [] false 0,.normal,Y153 (oneL v') v'.length out.length out put⟩)]) 100 f153 [.c (.view none (.ivs .i64 ti) ti.length 1 none),.c (.view none (.ints .i64 v) v.length 1 none)] [] [(0,false),(0,false)]=
  some ⟨.c (.sl 0 0 out.length 1 none),[.live (.ivs .i64 out)],(decide (v'.length≤274877906944)&&(!decide (leadL v'<0)&&(decide (0≤leadL v')&&(decide (leadL v'<(↑v'.length:Int))&&(decide ((leadL v').toNat<v'.length)&&(fok (v'.getD (leadL v').toNat 0)&&(decide (v'.length≤274877906944)&&(allFok v'&&(fok (inv (v'.getD (leadL v').toNat 0))&&((!!put)&&true)))))))))),[I153 ti v v.length 0=I153 ti v v.length 0,J153 ti (oneL v') v'.length (leadL v') 0 [] false 0=J153 ti (oneL v') v'.length (leadL v') 0 [] false 0]⟩:=by kernel_rfl
theorem x153n_1 (ti:List (List Int)) (v v':List Int):evalF tt (ctOf T47) ([(0,⟨liveH f153 0,I153 ti v v.length 0,.normal,X153 ti v' v'.length⟩)]) 100 f153 [.c (.view none (.ivs .i64 ti) ti.length 1 none),.c (.view none (.ints .i64 v) v.length 1 none)] [] [(0,true)]=
  some ⟨.c (.view none (.ivs .i64 ti) ti.length 1 none),[],(decide (v'.length≤274877906944)&&((decide (leadL v'<0))&&true)),[I153 ti v v.length 0=I153 ti v v.length 0]⟩:=by kernel_rfl
theorem leadAt_none {v:List Int}: ∀(f i:Nat),leadAt v f i=none→ ∀k,i≤k→k<i+f→v.getD k 0=0
 |0,i,h,k,h1,h2=>by omega
 |f+1,i,h,k,h1,h2=>by
  simp only[leadAt]at h
  split at h
  ·rename_i hz
   by_cases e:k=i
   ·subst e;exact hz
   ·exact leadAt_none f (i+1) h k (by omega) (by omega)
  ·cases h
theorem leadAt_nz {v:List Int}: ∀(f i j:Nat),leadAt v f i=some j→v.getD j 0≠0
 |0,i,j,h=>by simp[leadAt]at h
 |f+1,i,j,h=>by
  simp only[leadAt]at h
  split at h
  ·exact leadAt_nz f (i+1) j h
  ·rename_i hz
   injection h with h;subst h;exact hz
theorem leadL_nonneg {v:List Int} {i:Nat} (hi:i<v.length) (h:v.getD i 0≠0):0≤leadL v:=by
 unfold leadL
 cases hl:leadO v with
 |some j=>dsimp only;omega
 |none=>exact absurd (leadAt_none v.length 0 hl i (by omega) (by omega)) h
theorem leadL_nz {v:List Int} (h:0≤leadL v):(leadL v).toNat<v.length∧v.getD (leadL v).toNat 0≠0:=by
 unfold leadL at h⊢
 cases hl:leadO v with
 |some j=>
  dsimp only
  rw[Int.toNat_natCast]
  have:=leadAt_lt v.length 0 j hl
  exact⟨by omega,leadAt_nz _ _ _ hl⟩
 |none=>rw[hl]at h;simp at h
theorem scaleL_get {v:List Int} {c:Int} {i:Nat} (hi:i<v.length):(scaleL v c).getD i 0=v.getD i 0*c%31:=by
 have gen: ∀(k j i:Nat),i<k→(mapAt (scaleF v c) k j).getD i 0=scaleF v c (j+i):=by
  intro k
  induction k with
  |zero=>intro j i h;omega
  |succ k ih=>
   intro j i h
   simp only[mapAt]
   cases i with
   |zero=>simp
   |succ i=>rw[List.getD_cons_succ,ih (j+1) i (by omega)];congr 1;omega
 have:=gen v.length 0 i hi
 rw[Nat.zero_add]at this;exact this
theorem oneL_lead {v:List Int} (hf:allFok v=true) (h:0≤leadL v):0≤leadL (oneL v):=by
 obtain⟨h1,h2⟩:=leadL_nz h
 refine leadL_nonneg (i:=(leadL v).toNat) (by unfold oneL;rw[scaleL_len];exact h1) ?_
 unfold oneL
 rw[scaleL_get h1,inv_mul (allFok_get hf _) h2];decide
theorem addR_len (ti:List (List Int)) (v:List Int) (ld:Int):(addR ti v ld).1.length≤2*ti.length:=
 runN_inv0 (step:=addS ti v ld) (fun i s=>s.1.length≤2*i) ti.length ([],false) (by simp) fun i s _ h=>by
  unfold addS
  cases !s.2&&decide (leadL (ti.getD i [])>ld)
  ·simp;omega
  ·simp;omega
def FFadd:Model:=fun args h=>
 match args,h with
 |[.c (.view _ (.ivs .i64 ti) n 1 _),.c (.view _ (.ints .i64 v) n2 1 _)],[]=>
  some (.c (.view none (.ivs .i64 (addL ti v)) (addL ti v).length 1 none),[],[decide (v.length≤274877906944),decide (ti.length≤1000),tdOk v.length ti,allFok v])
 |_,_=>none
theorem m153:ModelN Tryz.prog 189 FFadd:=by
 intro args h res h' o hnorm he ho
 unfold FFadd at he
 split at he
 case h_2=>cases he
 rename_i nl ti n cap nl2 v n2 cap2
 simp only[Option.some.injEq,Prod.mk.injEq]at he
 obtain⟨rfl,rfl,rfl⟩:=he
 simp only[List.mem_cons,List.not_mem_nil,or_false,forall_eq_or_imp,forall_eq,decide_eq_true_eq]at ho
 obtain⟨o1,o2,o3,o4⟩:=ho
 simp only[normA,AV.norm,normL,Cell.norm,Con.size,List.cons.injEq,AV.c.injEq,AV.agg.injEq,Cell.view.injEq,nlen_one,true_and,and_true]at hnorm
 obtain⟨⟨rfl,rfl,rfl⟩,rfl,rfl,rfl⟩:=hnorm
 obtain⟨r1,r2⟩:=rdL3_ok (ti:=ti) o4
 have g1:=l153 ti v v.length o1 o2 o3 rfl o4
 unfold addL
 cases hl:decide (leadL (rdL3 ti v)<0)with
 |true=>
  exact meets_of t47 (fn:=f153) (by kernel_rfl) (by kernel_rfl) (x153n_1 ti v (rdL3 ti v)) (by simp only[hl,bS];omega) (by simp) (fun cc hcc=>LcOk.cons (c:=cc) (by cases hcc;kernel_rfl) (by cases hcc;exact g1) LcOk.nil)
 |false=>
  have h0:0≤leadL (rdL3 ti v):=by simpa using hl
  obtain⟨z1,z2⟩:=leadL_nz h0
  have g2:=l153b ti (oneL (rdL3 ti v)) (rdL3 ti v).length v.length (leadL (rdL3 ti v)) o1 o2 o3 (by unfold oneL;rw[scaleL_len];exact r1) (scaleL_fok _ _) (oneL_lead r2 h0)
  have hlen:=addR_len ti (oneL (rdL3 ti v)) (leadL (rdL3 ti v))
  cases hp:(addR ti (oneL (rdL3 ti v)) (leadL (rdL3 ti v))).2 with
  |true=>
   have e:=x153_3 ti v (rdL3 ti v) (addR ti (oneL (rdL3 ti v)) (leadL (rdL3 ti v))).1 (addR ti (oneL (rdL3 ti v)) (leadL (rdL3 ti v))).2
   have mm:=meets_of (f:=189) t47 (fn:=f153) (by kernel_rfl) (by kernel_rfl) e (by simp only[hl,hp,r2,allFok_get r2,inv_fok,bS];omega) (by simp)
    (fun cc hcc=>LcOk.cons (c:=cc) (by cases hcc;kernel_rfl) (by cases hcc;exact g1) (LcOk.cons (by cases hcc;kernel_rfl) (by cases hcc;exact g2) LcOk.nil))
   exact mm.views (o:=[decide ((addR ti (oneL (rdL3 ti v)) (leadL (rdL3 ti v))).1.length=(addR ti (oneL (rdL3 ti v)) (leadL (rdL3 ti v))).1.length)]) rfl (by simp)
  |false=>
   have e:=x153_2 ti v (rdL3 ti v) (addR ti (oneL (rdL3 ti v)) (leadL (rdL3 ti v))).1 (addR ti (oneL (rdL3 ti v)) (leadL (rdL3 ti v))).2
   have mm:=meets_of (f:=189) t47 (fn:=f153) (by kernel_rfl) (by kernel_rfl) e (by simp only[hl,hp,r2,allFok_get r2,inv_fok,bS];omega) (by simp)
    (fun cc hcc=>LcOk.cons (c:=cc) (by cases hcc;kernel_rfl) (by cases hcc;exact g1) (LcOk.cons (by cases hcc;kernel_rfl) (by cases hcc;exact g2) LcOk.nil))
   have:=mm.views (o:=[decide ((addR ti (oneL (rdL3 ti v)) (leadL (rdL3 ti v))).1.length+1=((addR ti (oneL (rdL3 ti v)) (leadL (rdL3 ti v))).1++[oneL (rdL3 ti v)]).length)]) rfl (by simp)
   rw[cond_false,cond_false,List.length_append]
   exact this
end Go.Proofs.YthapjdpkelihiaaGreat.Am
end
section
namespace Go.Proofs.YthapjdpkelihiaaGreat.Am
noncomputable def T48:List Entry:=[⟨189,[],nm FFadd⟩]++T47
theorem e48:EntriesOk Tryz.prog T48:=by
 refine EntriesOk.append ?_ e47
 intro e he
 simp only[List.mem_cons,List.not_mem_nil,or_false]at he
 subst he;exact m153.ok
theorem t48:CtOk Tryz.prog (ctOf T48):=ctOf_ok e48
noncomputable abbrev f134:=Tryz.f156
noncomputable def I134 (m out:List (List Int)) (n:Nat) (i:Int):St:=
 stOf f134.ntmps [(0,.c (.view none (.ivs .i64 m) m.length 1 none)),(3,.c (.view none (.ivs .i64 out) n 1 none)),(4,.c (.int .i64 i))] []
noncomputable def X134 (out:List (List Int)) (n:Nat):St:=stOf f134.ntmps [(3,.c (.view none (.ivs .i64 out) n 1 none))] []
theorem r134_1 (m out:List (List Int)) (n:Nat) (i:Int):roundR 0 (liveH f134 0) (liveB' f134 0) (evalC tt (ctOf T48) ([]) 0 100 (bodyAt 0 (codeOf f134)) (I134 m out n i) [(0,true)])=
  some (.normal,(decide (i<(↑m.length:Int))&&(decide (0≤i)&&(decide (i<(↑m.length:Int))&&(decide (i.toNat<m.length)&&(decide ((m.getD i.toNat []).length≤274877906944)&&(decide (out.length≤1000)&&(tdOk (m.getD i.toNat []).length out&&((allFok (m.getD i.toNat []))&&true)))))))),[],I134 m (addL out (m.getD i.toNat [])) ((addL out (m.getD i.toNat [])).length) (IntKind.i64.wrap (i+1))):=by kernel_rfl
theorem r134_2 (m out:List (List Int)) (n:Nat) (i:Int):roundR 0 (liveH f134 0) (liveB' f134 0) (evalC tt (ctOf T48) ([]) 0 100 (bodyAt 0 (codeOf f134)) (I134 m out n i) [(0,false)])=
  some (.exit 0,((!decide (i<(↑m.length:Int)))&&true),[],X134 (out) (n)):=by kernel_rfl
def tidT (m:List (List Int)) (i:Nat) (out:List (List Int)):List (List Int):=addL out (m.getD i [])
def tidL (m:List (List Int)):List (List Int):=runN (tidT m) m.length 0 []
def tidOkAt (m:List (List Int)):Nat→Nat→List (List Int)→Bool
 |0,_,_=>true
 |f+1,i,out=>(decide ((m.getD i []).length≤274877906944)&&(decide (out.length≤1000)&&(tdOk (m.getD i []).length out&&allFok (m.getD i []))))&&tidOkAt m f (i+1) (tidT m i out)
def tidOk (m:List (List Int)):Bool:=tidOkAt m m.length 0 []
noncomputable def J134 (m:List (List Int)):St:=
 stOf f134.ntmps [(0,.c (.view none (.ivs .i64 m) m.length 1 none)),(3,.c (.sl 0 0 0 1 none)),(4,.c (.int .i64 0))] [.live (.ivs .i64 [])]
theorem l134 (m:List (List Int)) (hm:m.length≤274877906944) (ht:tidOk m=true):
  Good Tryz.prog 0 (.block 0 (.loop (bodyAt 0 (codeOf f134)))) (J134 m) fun e t=>e=.normal∧t=X134 (tidL m) (tidL m).length:=by
 have g:=Good.count hT t48 hmix (m:=0) (id:=0) (body:=bodyAt 0 (codeOf f134)) m.length (fun i out=>tidOkAt m (m.length-i) i out=true) (fun i out=>I134 m out out.length i) (fun out=>X134 out out.length) (tidT m) (liveH f134 0) (liveB' f134 0)
  (fun _ _=>[]) (fun _ _ _ _=>LcOk.nil) (fun i out hi h=> ?_) (fun out h=>⟨_,_,⟨_,_,r134_2 m out out.length m.length,by simp,by simp⟩⟩) [] ht
 ·have e:fit 0 (liveH f134 0) ⟨(J134 m).tmps.set 3 (.c (.view none (.ivs .i64 []) 0 1 none)),(J134 m).heap.set 0 .dead⟩=I134 m [] 0 0:=by kernel_rfl
  have w:=(Weak.froz 0 3 0 (s:=J134 m) (len:=0) (es:=1) (cap:=none) (c:=.ivs .i64 []) rfl rfl rfl rfl).trans (Weak.fit 0 (liveH f134 0) _)
  rw[e]at w
  exact g.pre w
 ·rw[show m.length-i=(m.length-(i+1))+1 from by omega]at h
  simp only[tidOkAt,Bool.and_eq_true,decide_eq_true_eq]at h
  obtain⟨⟨h1,h2,h3,h4⟩,h5⟩:=h
  refine⟨h5, ?_⟩
  have e:=r134_1 m out out.length i
  rw[wrap_small (by omega) (by omega),Int.toNat_natCast]at e
  refine⟨_,_,⟨_,_,e, ?_,by simp⟩⟩
  simp only[h1,h2,h3,h4,decide_true,bS]
  omega
theorem x134_1 (m:List (List Int)):evalF tt (ctOf T48) ([(0,⟨liveH f134 0,J134 m,.normal,X134 (tidL m) (tidL m).length⟩)]) 100 f134 [.c (.view none (.ivs .i64 m) m.length 1 none)] [] []=
  some ⟨.c (.view none (.ivs .i64 (tidL m)) (tidL m).length 1 none),[],true,[J134 m=J134 m]⟩:=by kernel_rfl
def FFtidy:Model:=fun args h=>
 match args,h with
 |[.c (.view _ (.ivs .i64 m) n 1 _)],[]=>
  some (.c (.view none (.ivs .i64 (tidL m)) (tidL m).length 1 none),[],[decide (m.length≤274877906944),tidOk m])
 |_,_=>none
theorem m134:ModelN Tryz.prog 156 FFtidy:=by
 intro args h res h' o hnorm he ho
 unfold FFtidy at he
 split at he
 case h_2=>cases he
 rename_i nl m n cap
 simp only[Option.some.injEq,Prod.mk.injEq]at he
 obtain⟨rfl,rfl,rfl⟩:=he
 simp only[List.mem_cons,List.not_mem_nil,or_false,forall_eq_or_imp,forall_eq,decide_eq_true_eq]at ho
 obtain⟨o1,o2⟩:=ho
 simp only[normA,AV.norm,normL,Cell.norm,Con.size,List.cons.injEq,AV.c.injEq,AV.agg.injEq,Cell.view.injEq,nlen_one,true_and,and_true]at hnorm
 obtain⟨rfl,rfl,rfl⟩:=hnorm
 exact meets_of t48 (fn:=f134) (by kernel_rfl) (by kernel_rfl) (x134_1 m) (by simp) (by simp) (fun cc hcc=>LcOk.cons (c:=cc) (by cases hcc;kernel_rfl) (by cases hcc;exact l134 m o1 o2) LcOk.nil)
noncomputable def T49:List Entry:=[⟨156,[],nm FFtidy⟩]++T48
theorem e49:EntriesOk Tryz.prog T49:=by
 refine EntriesOk.append ?_ e48
 intro e he
 simp only[List.mem_cons,List.not_mem_nil,or_false]at he
 subst he;exact m134.ok
theorem t49:CtOk Tryz.prog (ctOf T49):=ctOf_ok e49
theorem x132_1 (m:List (List Int)) (v:List Int):evalF tt (ctOf T49) ([]) 100 Tryz.f160 [.c (.view none (.ivs .i64 m) m.length 1 none),.c (.view none (.ints .i64 v) v.length 1 none)] [] []=
  some ⟨.c (.bool ((↑(addL (tidL m) v).length:Int)==(↑(tidL m).length:Int))),[],(decide (m.length≤274877906944)&&(tidOk m&&(decide (v.length≤274877906944)&&(decide ((tidL m).length≤1000)&&(tdOk v.length (tidL m)&&((allFok v)&&true)))))),[]⟩:=by kernel_rfl
noncomputable abbrev f135:=Tryz.f157
noncomputable def I135 (k:Int) (c:List Bool) (n:Nat) (out:List (List Int)) (i:Int):St:=
 stOf f135.ntmps [(0,.c (.int .i64 k)),(1,.c (.view none (.bools c) c.length 1 none)),(5,.c (.sl 0 0 n 1 none)),(6,.c (.int .i64 i))] [.live (.ivs .i64 out)]
noncomputable def X135 (n:Nat) (out:List (List Int)):St:=stOf f135.ntmps [(5,.c (.sl 0 0 n 1 none))] [.live (.ivs .i64 out)]
theorem r135_1 (k:Int) (c:List Bool) (n:Nat) (out:List (List Int)) (i:Int):roundR 0 (liveH f135 0) (liveB' f135 0) (evalC tt (ctOf T49) ([]) 0 100 (bodyAt 0 (codeOf f135)) (I135 k c n out i) [(0,true),(0,true)])=
  some (.normal,(decide (i<8)&&(decide (0≤i)&&(decide (i<(↑c.length:Int))&&(decide (i.toNat<c.length)&&((c.getD i.toNat false)&&(bet k 1 2&&(bet i 0 7&&(decide (n=out.length)&&((decide (n+1≤274877906944))&&true))))))))),[],I135 k c (n+1) (out++[rowL k i]) (IntKind.i64.wrap (i+1))):=by kernel_rfl
theorem r135_2 (k:Int) (c:List Bool) (n:Nat) (out:List (List Int)) (i:Int):roundR 0 (liveH f135 0) (liveB' f135 0) (evalC tt (ctOf T49) ([]) 0 100 (bodyAt 0 (codeOf f135)) (I135 k c n out i) [(0,true),(0,false)])=
  some (.normal,(decide (i<8)&&(decide (0≤i)&&(decide (i<(↑c.length:Int))&&(decide (i.toNat<c.length)&&((!c.getD i.toNat false)&&true))))),[],I135 k c (n) (out) (IntKind.i64.wrap (i+1))):=by kernel_rfl
theorem r135_3 (k:Int) (c:List Bool) (n:Nat) (out:List (List Int)) (i:Int):roundR 0 (liveH f135 0) (liveB' f135 0) (evalC tt (ctOf T49) ([]) 0 100 (bodyAt 0 (codeOf f135)) (I135 k c n out i) [(0,false)])=
  some (.exit 0,((!decide (i<8))&&true),[],X135 (n) (out)):=by kernel_rfl
noncomputable abbrev f62:=Tryz.f62
noncomputable def I62 (k:Int) (v:List Int) (n:Nat) (out:List Int) (i:Int):St:=
 stOf f62.ntmps [(0,.c (.int .i64 k)),(1,.c (.view none (.ints .i64 v) v.length 1 none)),(5,.c (.sl 0 0 n 1 none)),(6,.c (.int .i64 i))] [.live (.ints .i64 out)]
noncomputable def X62 (n:Nat) (out:List Int):St:=stOf f62.ntmps [(5,.c (.sl 0 0 n 1 none))] [.live (.ints .i64 out)]
theorem r62_1 (k:Int) (v:List Int) (n:Nat) (out:List Int) (i:Int):roundR 0 (liveH f62 0) (liveB' f62 0) (evalC tt (ctOf T49) ([]) 0 100 (bodyAt 0 (codeOf f62)) (I62 k v n out i) [(0,true)])=
  some (.normal,(decide (i<8)&&(bet k 1 2&&(bet i 0 7&&(decide ((rowL k i).length≤274877906944)&&(decide ((rowL k i).length≤v.length)&&(allFok (rowL k i)&&(allFok v&&(decide (n=out.length)&&((decide (n+1≤274877906944))&&true))))))))),[],I62 k v (n+1) (out++[dotL (rowL k i) v]) (IntKind.i64.wrap (i+1))):=by kernel_rfl
theorem r62_2 (k:Int) (v:List Int) (n:Nat) (out:List Int) (i:Int):roundR 0 (liveH f62 0) (liveB' f62 0) (evalC tt (ctOf T49) ([]) 0 100 (bodyAt 0 (codeOf f62)) (I62 k v n out i) [(0,false)])=
  some (.exit 0,((!decide (i<8))&&true),[],X62 (n) (out)):=by kernel_rfl
end Go.Proofs.YthapjdpkelihiaaGreat.Am
end
section
namespace Go.Proofs.YthapjdpkelihiaaGreat.Am
def hasL (m:List (List Int)) (v:List Int):Bool:=((addL (tidL m) v).length:Int)==((tidL m).length:Int)
def FFhas:Model:=fun args h=>
 match args,h with
 |[.c (.view _ (.ivs .i64 m) n 1 _),.c (.view _ (.ints .i64 v) n2 1 _)],[]=>
  some (.c (.bool (hasL m v)),[],[decide (m.length≤274877906944),tidOk m,decide (v.length≤274877906944),decide ((tidL m).length≤1000),tdOk v.length (tidL m),allFok v])
 |_,_=>none
theorem m132:ModelN Tryz.prog 160 FFhas:=by
 intro args h res h' o hnorm he ho
 unfold FFhas at he
 split at he
 case h_2=>cases he
 rename_i nl m n cap nl2 v n2 cap2
 simp only[Option.some.injEq,Prod.mk.injEq]at he
 obtain⟨rfl,rfl,rfl⟩:=he
 simp only[List.mem_cons,List.not_mem_nil,or_false,forall_eq_or_imp,forall_eq,decide_eq_true_eq]at ho
 obtain⟨o1,o2,o3,o4,o5,o6⟩:=ho
 simp only[normA,AV.norm,normL,Cell.norm,Con.size,List.cons.injEq,AV.c.injEq,AV.agg.injEq,Cell.view.injEq,nlen_one,true_and,and_true]at hnorm
 obtain⟨⟨rfl,rfl,rfl⟩,rfl,rfl,rfl⟩:=hnorm
 exact meets_of t49 (by kernel_rfl) (by kernel_rfl) (x132_1 m v) (by simp[o1,o2,o3,o4,o5,o6]) (by simp) (fun cc _=>LcOk.nil)
theorem rowL_len {k a:Int} (hk:bet k 1 2=true) (ha:bet a 0 7=true):(rowL k a).length=4:=by
 refine of16 (q:=fun k a=>(rowL k a).length=4) (fun i hi=> ?_) hk ha
 have all:allK (fun k=>decide ((rowL ((k/8:Nat)+1:Int) (k%8:Nat)).length=4)) 16=true:=by kernel_rfl
 simpa using allK_spec all i hi
def cdL (k:Int) (v:List Int):List Int:=[dotL (rowL k 0) v,dotL (rowL k 1) v,dotL (rowL k 2) v,dotL (rowL k 3) v,dotL (rowL k 4) v,dotL (rowL k 5) v,dotL (rowL k 6) v,dotL (rowL k 7) v]
theorem l62 (k:Int) (v:List Int) (hk:bet k 1 2=true) (hv:v.length=4) (hf:allFok v=true):
  Good Tryz.prog 0 (.block 0 (.loop (bodyAt 0 (codeOf f62)))) (I62 k v 0 [] 0) fun e t=>e=.normal∧t=X62 8 (cdL k v):=by
 refine(Good.count hT t49 hmix (m:=0) (id:=0) (body:=bodyAt 0 (codeOf f62)) 8 (fun i o=>o.length=i) (fun i o=>I62 k v o.length o i) (fun o=>X62 o.length o) (fun i o=>o++[dotL (rowL k (i:Int)) v]) (liveH f62 0) (liveB' f62 0)
  (fun _ _=>[]) (fun _ _ _ _=>LcOk.nil) (fun i o hi h=>⟨by simp[h], ?_⟩) (fun o h=>⟨_,_,⟨_,_,r62_2 k v o.length o (8:Nat),rfl,by simp⟩⟩)) [] rfl
 have e:=r62_1 k v o.length o i
 rw[wrap_small (by omega) (by omega)]at e
 have hb:bet (i:Int) 0 7=true:=bet_iff.2 ⟨by omega,by omega⟩
 have hl:=rowL_len hk hb
 rw[List.length_append]
 refine⟨_,_,⟨_,_,e, ?_,by simp⟩⟩
 simp only[hk,hb,hf,rowL_fok hk hb,bS]
 omega
theorem x62_1 (k:Int) (v:List Int):evalF tt (ctOf T49) ([(0,⟨liveH f62 0,I62 k v 0 [] 0,.normal,X62 8 (cdL k v)⟩)]) 100 f62 [.c (.int .i64 k),.c (.view none (.ints .i64 v) v.length 1 none)] [] []=
  some ⟨.c (.sl 0 0 8 1 none),[.live (.ints .i64 (cdL k v))],true,[I62 k v 0 [] 0=I62 k v 0 [] 0]⟩:=by kernel_rfl
def FFall:Model:=fun args h=>
 match args,h with
 |[.c (.int .i64 k),.c (.view _ (.ints .i64 v) n 1 _)],[]=>
  some (.c (.sl 0 0 8 1 none),[.live (.ints .i64 (cdL k v))],[bet k 1 2,decide (v.length=4),allFok v])
 |_,_=>none
theorem m62:ModelN Tryz.prog 62 FFall:=by
 intro args h res h' o hnorm he ho
 unfold FFall at he
 split at he
 case h_2=>cases he
 rename_i k nl v n cap
 simp only[Option.some.injEq,Prod.mk.injEq]at he
 obtain⟨rfl,rfl,rfl⟩:=he
 simp only[List.mem_cons,List.not_mem_nil,or_false,forall_eq_or_imp,forall_eq,decide_eq_true_eq]at ho
 obtain⟨o1,o2,o3⟩:=ho
 simp only[normA,AV.norm,normL,Cell.norm,Con.size,List.cons.injEq,AV.c.injEq,AV.agg.injEq,Cell.view.injEq,nlen_one,true_and,and_true]at hnorm
 obtain⟨rfl,rfl,rfl⟩:=hnorm
 exact meets_of t49 (fn:=f62) (by kernel_rfl) (by kernel_rfl) (x62_1 k v) (by simp) (by simp) (fun cc hcc=>LcOk.cons (c:=cc) (by cases hcc;kernel_rfl) (by cases hcc;exact l62 k v o1 o2 o3) LcOk.nil)
def rwS (k:Int) (c:List Bool) (i:Nat) (o:List (List Int)):List (List Int):=bif c.getD i false then o++[rowL k i]else o
def rwL (k:Int) (c:List Bool):List (List Int):=runN (rwS k c) 8 0 []
theorem l135 (k:Int) (c:List Bool) (hk:bet k 1 2=true) (hc:c.length=8):
  Good Tryz.prog 0 (.block 0 (.loop (bodyAt 0 (codeOf f135)))) (I135 k c 0 [] 0) fun e t=>e=.normal∧t=X135 (rwL k c).length (rwL k c):=by
 refine(Good.count hT t49 hmix (m:=0) (id:=0) (body:=bodyAt 0 (codeOf f135)) 8 (fun i o=>o.length≤i) (fun i o=>I135 k c o.length o i) (fun o=>X135 o.length o) (rwS k c) (liveH f135 0) (liveB' f135 0)
  (fun _ _=>[]) (fun _ _ _ _=>LcOk.nil) (fun i o hi h=> ?_) (fun o h=>⟨_,_,⟨_,_,r135_3 k c o.length o (8:Nat),rfl,by simp⟩⟩)) [] (by simp)
 have hb:bet (i:Int) 0 7=true:=bet_iff.2 ⟨by omega,by omega⟩
 unfold rwS
 cases hq:c.getD i false with
 |true=>
  refine⟨by simp;omega, ?_⟩
  have e:=r135_1 k c o.length o i
  rw[wrap_small (by omega) (by omega),Int.toNat_natCast]at e
  rw[cond_true,List.length_append]
  refine⟨_,_,⟨_,_,e, ?_,by simp⟩⟩
  simp only[hk,hb,hq,bS]
  omega
 |false=>
  refine⟨by rw[cond_false];omega, ?_⟩
  have e:=r135_2 k c o.length o i
  rw[wrap_small (by omega) (by omega),Int.toNat_natCast]at e
  rw[cond_false]
  refine⟨_,_,⟨_,_,e, ?_,by simp⟩⟩
  simp only[hq,bS]
  omega
theorem x135_1 (k:Int) (c:List Bool):evalF tt (ctOf T49) ([(0,⟨liveH f135 0,I135 k c 0 [] 0,.normal,X135 (rwL k c).length (rwL k c)⟩)]) 100 f135 [.c (.int .i64 k),.c (.view none (.bools c) c.length 1 none)] [] []=
  some ⟨.c (.sl 0 0 (rwL k c).length 1 none),[.live (.ivs .i64 (rwL k c))],true,[I135 k c 0 [] 0=I135 k c 0 [] 0]⟩:=by kernel_rfl
def FFrw:Model:=fun args h=>
 match args,h with
 |[.c (.int .i64 k),.c (.view _ (.bools c) n 1 _)],[]=>
  some (.c (.view none (.ivs .i64 (rwL k c)) (rwL k c).length 1 none),[],[bet k 1 2,decide (c.length=8)])
 |_,_=>none
theorem m135:ModelN Tryz.prog 157 FFrw:=by
 intro args h res h' o hnorm he ho
 unfold FFrw at he
 split at he
 case h_2=>cases he
 rename_i k nl c n cap
 simp only[Option.some.injEq,Prod.mk.injEq]at he
 obtain⟨rfl,rfl,rfl⟩:=he
 simp only[List.mem_cons,List.not_mem_nil,or_false,forall_eq_or_imp,forall_eq,decide_eq_true_eq]at ho
 obtain⟨o1,o2⟩:=ho
 simp only[normA,AV.norm,normL,Cell.norm,Con.size,List.cons.injEq,AV.c.injEq,AV.agg.injEq,Cell.view.injEq,nlen_one,true_and,and_true]at hnorm
 obtain⟨rfl,rfl,rfl⟩:=hnorm
 exact(meets_of (f:=157) t49 (fn:=f135) (by kernel_rfl) (by kernel_rfl) (x135_1 k c) (by simp) (by simp) (fun cc hcc=>LcOk.cons (c:=cc) (by cases hcc;kernel_rfl) (by cases hcc;exact l135 k c o1 o2) LcOk.nil)).views
  (o:=[decide ((rwL k c).length=(rwL k c).length)]) rfl (by simp)
theorem x101_1 (k:Int) (a b:List Int) (c:List Bool):evalF tt (ctOf T49) ([]) 100 Tryz.f113 [.agg [.int .i64 k,.view none (.ints .i64 a) a.length 1 none,.view none (.ints .i64 b) b.length 1 none,.view none (.bools c) c.length 1 none]] [] []=
  some ⟨.agg [.int .i64 k,.sl 0 0 (0+a.length) 1 none,.sl 1 0 (0+b.length) 1 none,.sl 2 0 (0+c.length) 1 none],[.live (.ints .i64 ([]++a)),.live (.ints .i64 ([]++b)),.live (.bools ([]++c))],(decide (0+a.length≤274877906944)&&(decide (0+b.length≤274877906944)&&((decide (0+c.length≤274877906944))&&true))),[]⟩:=by kernel_rfl
def FFcopy:Model:=fun args h=>
 match args,h with
 |[.agg [.int .i64 k,.view _ (.ints .i64 a) n1 1 _,.view _ (.ints .i64 b) n2 1 _,.view _ (.bools c) n3 1 _]],[]=>
  some (.agg [.int .i64 k,.sl 0 0 a.length 1 none,.sl 1 0 b.length 1 none,.sl 2 0 c.length 1 none],[.live (.ints .i64 a),.live (.ints .i64 b),.live (.bools c)],[decide (a.length≤274877906944),decide (b.length≤274877906944),decide (c.length≤274877906944)])
 |_,_=>none
theorem m101:ModelN Tryz.prog 113 FFcopy:=by
 intro args h res h' o hnorm he ho
 unfold FFcopy at he
 split at he
 case h_2=>cases he
 rename_i k nl1 a n1 cap1 nl2 b n2 cap2 nl3 c n3 cap3
 simp only[Option.some.injEq,Prod.mk.injEq]at he
 obtain⟨rfl,rfl,rfl⟩:=he
 simp only[List.mem_cons,List.not_mem_nil,or_false,forall_eq_or_imp,forall_eq,decide_eq_true_eq]at ho
 obtain⟨o1,o2,o3⟩:=ho
 simp only[normA,AV.norm,normL,Cell.norm,Con.size,List.cons.injEq,AV.c.injEq,AV.agg.injEq,Cell.view.injEq,nlen_one,true_and,and_true]at hnorm
 obtain⟨⟨rfl,rfl,rfl⟩,⟨rfl,rfl,rfl⟩,rfl,rfl,rfl⟩:=hnorm
 have e:=x101_1 k a b c
 simp only[Nat.zero_add]at e
 exact meets_of t49 (by kernel_rfl) (by kernel_rfl) e (by simp[o1,o2,o3]) (by simp) (fun cc _=>LcOk.nil)
noncomputable def T50:List Entry:=[⟨160,[],nm FFhas⟩,⟨62,[],nm FFall⟩,⟨157,[],nm FFrw⟩,⟨113,[],nm FFcopy⟩]++T49
theorem e50:EntriesOk Tryz.prog T50:=by
 refine EntriesOk.append ?_ e49
 intro e he
 simp only[List.mem_cons,List.not_mem_nil,or_false]at he
 rcases he with rfl|rfl|rfl|rfl
 ·exact m132.ok
 ·exact m62.ok
 ·exact m135.ok
 ·exact m101.ok
theorem t50:CtOk Tryz.prog (ctOf T50):=ctOf_ok e50
theorem x106_1 (k:Int) (c:List Bool):evalF tt (ctOf T50) ([]) 100 Tryz.f114 [.c (.int .i64 k),.c (.view none (.bools c) c.length 1 none)] [] [(0,true),(0,true)]=
  some ⟨.c (.bool (bif bif bet k 1 2 then(↑c.length:Int)==8 else false then(↑(tidL (rwL k c)).length:Int)==4 else false)),[],(bet k 1 2&&(bet k 1 2&&(bet k 1 2&&((bif bet k 1 2 then(↑c.length:Int)==8 else false)&&((bif bet k 1 2 then(↑c.length:Int)==8 else false)&&((bif bet k 1 2 then(↑c.length:Int)==8 else false)&&(bet k 1 2&&(decide (c.length=8)&&((bif bet k 1 2 then(↑c.length:Int)==8 else false)&&(decide ((rwL k c).length≤274877906944)&&(tidOk (rwL k c)&&((bif bet k 1 2 then(↑c.length:Int)==8 else false)&&((bif bet k 1 2 then(↑c.length:Int)==8 else false)&&true))))))))))))),[]⟩:=by kernel_rfl
theorem x106_2 (k:Int) (c:List Bool):evalF tt (ctOf T50) ([]) 100 Tryz.f114 [.c (.int .i64 k),.c (.view none (.bools c) c.length 1 none)] [] [(0,true),(0,false)]=
  some ⟨.c (.bool false),[],(bet k 1 2&&(bet k 1 2&&(bet k 1 2&&((!bif bet k 1 2 then(↑c.length:Int)==8 else false)&&((!bif bet k 1 2 then(↑c.length:Int)==8 else false)&&((!bif bet k 1 2 then(↑c.length:Int)==8 else false)&&((!bif bet k 1 2 then(↑c.length:Int)==8 else false)&&((!bif bet k 1 2 then(↑c.length:Int)==8 else false)&&((!bif bet k 1 2 then(↑c.length:Int)==8 else false)&&((!bif bet k 1 2 then(↑c.length:Int)==8 else false)&&true)))))))))),[]⟩:=by kernel_rfl
theorem x106_3 (k:Int) (c:List Bool):evalF tt (ctOf T50) ([]) 100 Tryz.f114 [.c (.int .i64 k),.c (.view none (.bools c) c.length 1 none)] [] [(0,false)]=
  some ⟨.c (.bool false),[],(!bet k 1 2&&(!bet k 1 2&&(!bet k 1 2&&((!bet k 1 2)&&true)))),[]⟩:=by kernel_rfl
theorem l21LoseM:ModelOk Tryz.prog 54 (inlM tt (ctOf T50) Tryz.f54 []):=inlM_ok hT t50 hmix [] (by kernel_rfl) (by kernel_rfl)
end Go.Proofs.YthapjdpkelihiaaGreat.Am
end
