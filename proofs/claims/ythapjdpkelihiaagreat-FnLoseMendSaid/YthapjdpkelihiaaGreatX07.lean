/- DERIVED. Part 7 of the proof: C42, C43, C44. No statement of the program is proved here. -/
import Derived.Test.YthapjdpkelihiaaGreatX06
set_option linter.unusedSimpArgs false
set_option linter.unusedVariables false
set_option linter.unusedSectionVars false
namespace Go.Proofs.YthapjdpkelihiaaGreat.Am
section
def P8 (L:Nat) (r:List Int):Bool:=decide (r.length=L)&&(a9 r&&decide (0≤bD r))
def j9 (L:Nat) (ti:List (List Int)):Bool:=ti.all (P8 L)
theorem AN {L:Nat} {ti:List (List Int)} (h:j9 L ti=true) {i:Nat} (hi:i<ti.length):(ti.getD i []).length=L∧a9 (ti.getD i [])=true∧0≤bD (ti.getD i []):=by
 rw[List.getD_eq_getElem?_getD,List.getElem?_eq_getElem hi]
 have:=List.all_eq_true.1 h _ (List.getElem_mem hi)
 simpa only[P8,Bool.and_eq_true,decide_eq_true_eq,Option.getD_some]using this
def FC (ti:List (List Int)) (i:Nat) (v:List Int):List Int:=nlL v (ti.getD i [])
def dM (ti:List (List Int)) (v:List Int):List Int:=bP (FC ti) ti.length 0 v
theorem NJ {ti:List (List Int)} {v:List Int} (hv:a9 v=true):(dM ti v).length=v.length∧a9 (dM ti v)=true:=
 bH (step:=FC ti) (fun _ x=>x.length=v.length∧a9 x=true) _ v ⟨rfl,hv⟩ fun i x _ h=>⟨by rw[FC,lA];exact h.1,rP _ _⟩
theorem a5U (ti:List (List Int)) (v:List Int) (L:Nat) (hL:L≤274877906944) (hn:ti.length≤1000) (ht:j9 L ti=true) (hv:v.length=L) (hf:a9 v=true):
  aW Tryz.prog 0 (.block 0 (.loop (a6 0 (a7 f153)))) (mW ti v v.length 0) fun e t=>e=.normal∧t=EK ti (dM ti v) (dM ti v).length:=by
 refine aW.count hT t47 bM ti.length (fun _ x=>x.length=L∧a9 x=true) (fun i x=>mW ti x x.length i) (fun x=>EK ti x x.length) (FC ti) (aA f153 0) (aD f153 0)
  (fun _ _=>[]) (fun _ _ _ _=>aF.nil) (fun i x hi h=>⟨⟨by rw[FC,lA];exact h.1,rP _ _⟩, ?_⟩) (fun x h=>⟨_,_,⟨_,_,SP ti x x.length ti.length,by simp,by simp⟩⟩) v ⟨hv,hf⟩
 obtain⟨g1,g2,g3⟩:=AN ht hi
 have e:=SO ti x x.length i
 rw[aE (by omega) (by omega),Int.toNat_natCast]at e
 have hlen:(FC ti i x).length=x.length:=lA _ _
 rw[hlen]
 refine⟨_,_,⟨_,_,e, ?_,by simp⟩⟩
 simp only[h.2,g2,bS]
 omega
def HG (ti:List (List Int)) (v:List Int) (ld:Int) (i:Nat) (s:List (List Int)×Bool):List (List Int)×Bool:=
 bif !s.2&&decide (bD (ti.getD i [])>ld)then(s.1++[v]++[nlL (ti.getD i []) v],true)else(s.1++[nlL (ti.getD i []) v],s.2)
def lL (ti:List (List Int)) (v:List Int) (ld:Int):List (List Int)×Bool:=bP (HG ti v ld) ti.length 0 ([],false)
theorem XF (ti:List (List Int)) (v:List Int) (n L:Nat) (ld:Int) (hL:L≤274877906944) (hn:ti.length≤1000) (ht:j9 L ti=true) (hv:v.length=L) (hf:a9 v=true) (h0:0≤bD v):
  aW Tryz.prog 0 (.block 2 (.loop (a6 2 (a7 f153)))) (mA ti v n ld 0 [] false 0) fun e t=>e=.normal∧t=HC v n (lL ti v ld).1.length (lL ti v ld).1 (lL ti v ld).2:=by
 refine(aW.count hT t47 bM ti.length (fun i s=>s.1.length≤2*i) (fun i s=>mA ti v n ld s.1.length s.1 s.2 i) (fun s=>HC v n s.1.length s.1 s.2) (HG ti v ld) (aA f153 2) (aD f153 2)
  (fun _ _=>[]) (fun _ _ _ _=>aF.nil) (fun i s hi h=> ?_) (fun s h=>⟨_,_,⟨_,_,NE ti v n ld s.1.length s.1 s.2 ti.length,by simp,by simp⟩⟩)) ([],false) (by simp)
 obtain⟨g1,g2,g3⟩:=AN ht hi
 obtain⟨out,put⟩:=s
 dsimp only at h⊢
 unfold HG
 cases hp:put with
 |true=>
  refine⟨by simp;omega, ?_⟩
  have e:=ND ti v n ld out.length out true i
  rw[aE (by omega) (by omega),Int.toNat_natCast]at e
  simp only[Bool.not_true,Bool.false_and,cond_false,List.length_append,List.length_cons,List.length_nil]
  refine⟨_,_,⟨_,_,e, ?_,by simp⟩⟩
  simp only[hf,g2,h0,bS]
  omega
 |false=>
  cases hl:decide (bD (ti.getD i [])>ld)with
  |true=>
   refine⟨by simp;omega, ?_⟩
   have e:=NB ti v n ld out.length out false i
   rw[aE (by omega) (by omega),Int.toNat_natCast]at e
   simp only[Bool.not_false,Bool.true_and,cond_true,List.length_append,List.length_cons,List.length_nil]
   refine⟨_,_,⟨_,_,e, ?_,by simp⟩⟩
   simp only[hl,hf,g2,h0,List.length_append,List.length_cons,List.length_nil,bS]
   omega
  |false=>
   refine⟨by simp;omega, ?_⟩
   have e:=NC ti v n ld out.length out false i
   rw[aE (by omega) (by omega),Int.toNat_natCast]at e
   simp only[Bool.not_false,Bool.true_and,cond_false,List.length_append,List.length_cons,List.length_nil]
   refine⟨_,_,⟨_,_,e, ?_,by simp⟩⟩
   simp only[hl,hf,g2,h0,bS]
   omega
def fZ (v:List Int):List Int:=eE v (inv (v.getD (bD v).toNat 0))
def k9 (ti:List (List Int)) (v:List Int):List (List Int):=
 bif decide (bD (dM ti v)<0)then ti else
  (bif (lL ti (fZ (dM ti v)) (bD (dM ti v))).2 then(lL ti (fZ (dM ti v)) (bD (dM ti v))).1 else(lL ti (fZ (dM ti v)) (bD (dM ti v))).1++[fZ (dM ti v)])
theorem UY (ti:List (List Int)) (v v':List Int) (out:List (List Int)) (put:Bool):aG tt (aB T47) ([(0,⟨aA f153 0,mW ti v v.length 0,.normal,EK ti v' v'.length⟩),(2,⟨aA f153 2,mA ti (fZ v') v'.length (bD v') 0 [] false 0,.normal,HC (fZ v') v'.length out.length out put⟩)]) 100 f153 [.c (.view none (.ivs .i64 ti) ti.length 1 none),.c (.view none (.ints .i64 v) v.length 1 none)] [] [(0,false),(0,true)]=
  some ⟨.c (.sl 0 0 (out.length+1) 1 none),[.live (.ivs .i64 (out++[fZ v']))],(decide (v'.length≤274877906944)&&(!decide (bD v'<0)&&(decide (0≤bD v')&&(decide (bD v'<(↑v'.length:Int))&&(decide ((bD v').toNat<v'.length)&&(fok (v'.getD (bD v').toNat 0)&&(decide (v'.length≤274877906944)&&(a9 v'&&(fok (inv (v'.getD (bD v').toNat 0))&&((!put)&&(decide (out.length=out.length)&&((decide (out.length+1≤274877906944))&&true)))))))))))),[mW ti v v.length 0=mW ti v v.length 0,mA ti (fZ v') v'.length (bD v') 0 [] false 0=mA ti (fZ v') v'.length (bD v') 0 [] false 0]⟩:=by kernel_rfl
theorem UZ (ti:List (List Int)) (v v':List Int) (out:List (List Int)) (put:Bool):aG tt (aB T47) ([(0,⟨aA f153 0,mW ti v v.length 0,.normal,EK ti v' v'.length⟩),(2,⟨aA f153 2,mA ti (fZ v') v'.length (bD v') 0 [] false 0,.normal,HC (fZ v') v'.length out.length out put⟩)]) 100 f153 [.c (.view none (.ivs .i64 ti) ti.length 1 none),.c (.view none (.ints .i64 v) v.length 1 none)] [] [(0,false),(0,false)]=
  some ⟨.c (.sl 0 0 out.length 1 none),[.live (.ivs .i64 out)],(decide (v'.length≤274877906944)&&(!decide (bD v'<0)&&(decide (0≤bD v')&&(decide (bD v'<(↑v'.length:Int))&&(decide ((bD v').toNat<v'.length)&&(fok (v'.getD (bD v').toNat 0)&&(decide (v'.length≤274877906944)&&(a9 v'&&(fok (inv (v'.getD (bD v').toNat 0))&&((!!put)&&true)))))))))),[mW ti v v.length 0=mW ti v v.length 0,mA ti (fZ v') v'.length (bD v') 0 [] false 0=mA ti (fZ v') v'.length (bD v') 0 [] false 0]⟩:=by kernel_rfl
theorem ON (ti:List (List Int)) (v v':List Int):aG tt (aB T47) ([(0,⟨aA f153 0,mW ti v v.length 0,.normal,EK ti v' v'.length⟩)]) 100 f153 [.c (.view none (.ivs .i64 ti) ti.length 1 none),.c (.view none (.ints .i64 v) v.length 1 none)] [] [(0,true)]=
  some ⟨.c (.view none (.ivs .i64 ti) ti.length 1 none),[],(decide (v'.length≤274877906944)&&((decide (bD v'<0))&&true)),[mW ti v v.length 0=mW ti v v.length 0]⟩:=by kernel_rfl
theorem qI {v:List Int}: ∀(f i:Nat),fW v f i=none→ ∀k,i≤k→k<i+f→v.getD k 0=0
 |0,i,h,k,h1,h2=>by omega
 |f+1,i,h,k,h1,h2=>by
  simp only[fW]at h
  split at h
  ·rename_i hz
   by_cases e:k=i
   ·subst e;exact hz
   ·exact qI f (i+1) h k (by omega) (by omega)
  ·cases h
theorem vY {v:List Int}: ∀(f i j:Nat),fW v f i=some j→v.getD j 0≠0
 |0,i,j,h=>by simp[fW]at h
 |f+1,i,j,h=>by
  simp only[fW]at h
  split at h
  ·exact vY f (i+1) j h
  ·rename_i hz
   injection h with h;subst h;exact hz
theorem y4 {v:List Int} {i:Nat} (hi:i<v.length) (h:v.getD i 0≠0):0≤bD v:=by
 unfold bD
 cases hl:kK v with
 |some j=>dsimp only;omega
 |none=>exact absurd (qI v.length 0 hl i (by omega) (by omega)) h
theorem zS {v:List Int} (h:0≤bD v):(bD v).toNat<v.length∧v.getD (bD v).toNat 0≠0:=by
 unfold bD at h⊢
 cases hl:kK v with
 |some j=>
  dsimp only
  rw[Int.toNat_natCast]
  have:=pD v.length 0 j hl
  exact⟨by omega,vY _ _ _ hl⟩
 |none=>rw[hl]at h;simp at h
theorem D2 {v:List Int} {c:Int} {i:Nat} (hi:i<v.length):(eE v c).getD i 0=v.getD i 0*c%31:=by
 have gen: ∀(k j i:Nat),i<k→(hG (pO v c) k j).getD i 0=pO v c (j+i):=by
  intro k
  induction k with
  |zero=>intro j i h;omega
  |succ k ih=>
   intro j i h
   simp only[hG]
   cases i with
   |zero=>simp
   |succ i=>rw[List.getD_cons_succ,ih (j+1) i (by omega)];congr 1;omega
 have:=gen v.length 0 i hi
 rw[Nat.zero_add]at this;exact this
theorem F9 {v:List Int} (hf:a9 v=true) (h:0≤bD v):0≤bD (fZ v):=by
 obtain⟨h1,h2⟩:=zS h
 refine y4 (i:=(bD v).toNat) (by unfold fZ;rw[gD];exact h1) ?_
 unfold fZ
 rw[D2 h1,nN (aR hf _) h2];decide
theorem HF (ti:List (List Int)) (v:List Int) (ld:Int):(lL ti v ld).1.length≤2*ti.length:=
 bH (step:=HG ti v ld) (fun i s=>s.1.length≤2*i) ti.length ([],false) (by simp) fun i s _ h=>by
  unfold HG
  cases !s.2&&decide (bD (ti.getD i [])>ld)
  ·simp;omega
  ·simp;omega
def G1:aQ:=fun args h=>
 match args,h with
 |[.c (.view _ (.ivs .i64 ti) n 1 _),.c (.view _ (.ints .i64 v) n2 1 _)],[]=>
  some (.c (.view none (.ivs .i64 (k9 ti v)) (k9 ti v).length 1 none),[],[decide (v.length≤274877906944),decide (ti.length≤1000),j9 v.length ti,a9 v])
 |_,_=>none
theorem a79:aV Tryz.prog 189 G1:=by
 intro args h res h' o hnorm he ho
 unfold G1 at he
 split at he
 case h_2=>cases he
 rename_i nl ti n cap nl2 v n2 cap2
 simp only[Option.some.injEq,Prod.mk.injEq]at he
 obtain⟨rfl,rfl,rfl⟩:=he
 simp only[List.mem_cons,List.not_mem_nil,or_false,forall_eq_or_imp,forall_eq,decide_eq_true_eq]at ho
 obtain⟨o1,o2,o3,o4⟩:=ho
 simp only[bG,AV.norm,bI,aJ.norm,Con.size,List.cons.injEq,AV.c.injEq,AV.agg.injEq,aJ.view.injEq,aN,true_and,and_true]at hnorm
 obtain⟨⟨rfl,rfl,rfl⟩,rfl,rfl,rfl⟩:=hnorm
 obtain⟨r1,r2⟩:=NJ (ti:=ti) o4
 have g1:=a5U ti v v.length o1 o2 o3 rfl o4
 unfold k9
 cases hl:decide (bD (dM ti v)<0)with
 |true=>
  exact a5 t47 (fn:=f153) (by kernel_rfl) (by kernel_rfl) (ON ti v (dM ti v)) (by simp only[hl,bS];omega) (by simp) (fun cc hcc=>aF.cons (c:=cc) (by cases hcc;kernel_rfl) (by cases hcc;exact g1) aF.nil)
 |false=>
  have h0:0≤bD (dM ti v):=by simpa using hl
  obtain⟨z1,z2⟩:=zS h0
  have g2:=XF ti (fZ (dM ti v)) (dM ti v).length v.length (bD (dM ti v)) o1 o2 o3 (by unfold fZ;rw[gD];exact r1) (mR _ _) (F9 r2 h0)
  have hlen:=HF ti (fZ (dM ti v)) (bD (dM ti v))
  cases hp:(lL ti (fZ (dM ti v)) (bD (dM ti v))).2 with
  |true=>
   have e:=UZ ti v (dM ti v) (lL ti (fZ (dM ti v)) (bD (dM ti v))).1 (lL ti (fZ (dM ti v)) (bD (dM ti v))).2
   have mm:=a5 (f:=189) t47 (fn:=f153) (by kernel_rfl) (by kernel_rfl) e (by simp only[hl,hp,r2,aR r2,rO,bS];omega) (by simp)
    (fun cc hcc=>aF.cons (c:=cc) (by cases hcc;kernel_rfl) (by cases hcc;exact g1) (aF.cons (by cases hcc;kernel_rfl) (by cases hcc;exact g2) aF.nil))
   exact mm.views (o:=[decide ((lL ti (fZ (dM ti v)) (bD (dM ti v))).1.length=(lL ti (fZ (dM ti v)) (bD (dM ti v))).1.length)]) rfl (by simp)
  |false=>
   have e:=UY ti v (dM ti v) (lL ti (fZ (dM ti v)) (bD (dM ti v))).1 (lL ti (fZ (dM ti v)) (bD (dM ti v))).2
   have mm:=a5 (f:=189) t47 (fn:=f153) (by kernel_rfl) (by kernel_rfl) e (by simp only[hl,hp,r2,aR r2,rO,bS];omega) (by simp)
    (fun cc hcc=>aF.cons (c:=cc) (by cases hcc;kernel_rfl) (by cases hcc;exact g1) (aF.cons (by cases hcc;kernel_rfl) (by cases hcc;exact g2) aF.nil))
   have:=mm.views (o:=[decide ((lL ti (fZ (dM ti v)) (bD (dM ti v))).1.length+1=((lL ti (fZ (dM ti v)) (bD (dM ti v))).1++[fZ (dM ti v)]).length)]) rfl (by simp)
   rw[cond_false,cond_false,List.length_append]
   exact this
end
section
noncomputable def T48:List bF:=[⟨189,[],nm G1⟩]++T47
theorem e48:a8 Tryz.prog T48:=by
 refine a8.append ?_ e47
 intro e he
 simp only[List.mem_cons,List.not_mem_nil,or_false]at he
 subst he;exact a79.ok
theorem t48:bN Tryz.prog (aB T48):=aP e48
noncomputable abbrev f134:=Tryz.f156
noncomputable def GY (m out:List (List Int)) (n:Nat) (i:Int):St:=
 bA f134.ntmps [(0,.c (.view none (.ivs .i64 m) m.length 1 none)),(3,.c (.view none (.ivs .i64 out) n 1 none)),(4,.c (.int .i64 i))] []
noncomputable def KX (out:List (List Int)) (n:Nat):St:=bA f134.ntmps [(3,.c (.view none (.ivs .i64 out) n 1 none))] []
theorem S8 (m out:List (List Int)) (n:Nat) (i:Int):aH 0 (aA f134 0) (aD f134 0) (aK tt (aB T48) ([]) 0 100 (a6 0 (a7 f134)) (GY m out n i) [(0,true)])=
  some (.normal,(decide (i<(↑m.length:Int))&&(decide (0≤i)&&(decide (i<(↑m.length:Int))&&(decide (i.toNat<m.length)&&(decide ((m.getD i.toNat []).length≤274877906944)&&(decide (out.length≤1000)&&(j9 (m.getD i.toNat []).length out&&((a9 (m.getD i.toNat []))&&true)))))))),[],GY m (k9 out (m.getD i.toNat [])) ((k9 out (m.getD i.toNat [])).length) (IntKind.i64.wrap (i+1))):=by kernel_rfl
theorem S9 (m out:List (List Int)) (n:Nat) (i:Int):aH 0 (aA f134 0) (aD f134 0) (aK tt (aB T48) ([]) 0 100 (a6 0 (a7 f134)) (GY m out n i) [(0,false)])=
  some (.exit 0,((!decide (i<(↑m.length:Int)))&&true),[],KX (out) (n)):=by kernel_rfl
def hX (m:List (List Int)) (i:Nat) (out:List (List Int)):List (List Int):=k9 out (m.getD i [])
def cM (m:List (List Int)):List (List Int):=bP (hX m) m.length 0 []
def d9 (m:List (List Int)):Nat→Nat→List (List Int)→Bool
 |0,_,_=>true
 |f+1,i,out=>(decide ((m.getD i []).length≤274877906944)&&(decide (out.length≤1000)&&(j9 (m.getD i []).length out&&a9 (m.getD i []))))&&d9 m f (i+1) (hX m i out)
def eS (m:List (List Int)):Bool:=d9 m m.length 0 []
noncomputable def C5 (m:List (List Int)):St:=
 bA f134.ntmps [(0,.c (.view none (.ivs .i64 m) m.length 1 none)),(3,.c (.sl 0 0 0 1 none)),(4,.c (.int .i64 0))] [.live (.ivs .i64 [])]
theorem a5O (m:List (List Int)) (hm:m.length≤274877906944) (ht:eS m=true):
  aW Tryz.prog 0 (.block 0 (.loop (a6 0 (a7 f134)))) (C5 m) fun e t=>e=.normal∧t=KX (cM m) (cM m).length:=by
 have g:=aW.count hT t48 bM (m:=0) (id:=0) (body:=a6 0 (a7 f134)) m.length (fun i out=>d9 m (m.length-i) i out=true) (fun i out=>GY m out out.length i) (fun out=>KX out out.length) (hX m) (aA f134 0) (aD f134 0)
  (fun _ _=>[]) (fun _ _ _ _=>aF.nil) (fun i out hi h=> ?_) (fun out h=>⟨_,_,⟨_,_,S9 m out out.length m.length,by simp,by simp⟩⟩) [] ht
 ·have e:fit 0 (aA f134 0) ⟨(C5 m).tmps.set 3 (.c (.view none (.ivs .i64 []) 0 1 none)),(C5 m).heap.set 0 .dead⟩=GY m [] 0 0:=by kernel_rfl
  have w:=(cX.froz 0 3 0 (s:=C5 m) (len:=0) (es:=1) (cap:=none) (c:=.ivs .i64 []) rfl rfl rfl rfl).trans (cX.fit 0 (aA f134 0) _)
  rw[e]at w
  exact g.pre w
 ·rw[show m.length-i=(m.length-(i+1))+1 from by omega]at h
  simp only[d9,Bool.and_eq_true,decide_eq_true_eq]at h
  obtain⟨⟨h1,h2,h3,h4⟩,h5⟩:=h
  refine⟨h5, ?_⟩
  have e:=S8 m out out.length i
  rw[aE (by omega) (by omega),Int.toNat_natCast]at e
  refine⟨_,_,⟨_,_,e, ?_,by simp⟩⟩
  simp only[h1,h2,h3,h4,decide_true,bS]
  omega
theorem UQ (m:List (List Int)):aG tt (aB T48) ([(0,⟨aA f134 0,C5 m,.normal,KX (cM m) (cM m).length⟩)]) 100 f134 [.c (.view none (.ivs .i64 m) m.length 1 none)] [] []=
  some ⟨.c (.view none (.ivs .i64 (cM m)) (cM m).length 1 none),[],true,[C5 m=C5 m]⟩:=by kernel_rfl
def BZ:aQ:=fun args h=>
 match args,h with
 |[.c (.view _ (.ivs .i64 m) n 1 _)],[]=>
  some (.c (.view none (.ivs .i64 (cM m)) (cM m).length 1 none),[],[decide (m.length≤274877906944),eS m])
 |_,_=>none
theorem a6T:aV Tryz.prog 156 BZ:=by
 intro args h res h' o hnorm he ho
 unfold BZ at he
 split at he
 case h_2=>cases he
 rename_i nl m n cap
 simp only[Option.some.injEq,Prod.mk.injEq]at he
 obtain⟨rfl,rfl,rfl⟩:=he
 simp only[List.mem_cons,List.not_mem_nil,or_false,forall_eq_or_imp,forall_eq,decide_eq_true_eq]at ho
 obtain⟨o1,o2⟩:=ho
 simp only[bG,AV.norm,bI,aJ.norm,Con.size,List.cons.injEq,AV.c.injEq,AV.agg.injEq,aJ.view.injEq,aN,true_and,and_true]at hnorm
 obtain⟨rfl,rfl,rfl⟩:=hnorm
 exact a5 t48 (fn:=f134) (by kernel_rfl) (by kernel_rfl) (UQ m) (by simp) (by simp) (fun cc hcc=>aF.cons (c:=cc) (by cases hcc;kernel_rfl) (by cases hcc;exact a5O m o1 o2) aF.nil)
noncomputable def T49:List bF:=[⟨156,[],nm BZ⟩]++T48
theorem e49:a8 Tryz.prog T49:=by
 refine a8.append ?_ e48
 intro e he
 simp only[List.mem_cons,List.not_mem_nil,or_false]at he
 subst he;exact a6T.ok
theorem t49:bN Tryz.prog (aB T49):=aP e49
theorem UN (m:List (List Int)) (v:List Int):aG tt (aB T49) ([]) 100 Tryz.f160 [.c (.view none (.ivs .i64 m) m.length 1 none),.c (.view none (.ints .i64 v) v.length 1 none)] [] []=
  some ⟨.c (.bool ((↑(k9 (cM m) v).length:Int)==(↑(cM m).length:Int))),[],(decide (m.length≤274877906944)&&(eS m&&(decide (v.length≤274877906944)&&(decide ((cM m).length≤1000)&&(j9 v.length (cM m)&&((a9 v)&&true)))))),[]⟩:=by kernel_rfl
noncomputable abbrev f135:=Tryz.f157
noncomputable def uI (k:Int) (c:List Bool) (n:Nat) (out:List (List Int)) (i:Int):St:=
 bA f135.ntmps [(0,.c (.int .i64 k)),(1,.c (.view none (.bools c) c.length 1 none)),(5,.c (.sl 0 0 n 1 none)),(6,.c (.int .i64 i))] [.live (.ivs .i64 out)]
noncomputable def KY (n:Nat) (out:List (List Int)):St:=bA f135.ntmps [(5,.c (.sl 0 0 n 1 none))] [.live (.ivs .i64 out)]
theorem SA (k:Int) (c:List Bool) (n:Nat) (out:List (List Int)) (i:Int):aH 0 (aA f135 0) (aD f135 0) (aK tt (aB T49) ([]) 0 100 (a6 0 (a7 f135)) (uI k c n out i) [(0,true),(0,true)])=
  some (.normal,(decide (i<8)&&(decide (0≤i)&&(decide (i<(↑c.length:Int))&&(decide (i.toNat<c.length)&&((c.getD i.toNat false)&&(bet k 1 2&&(bet i 0 7&&(decide (n=out.length)&&((decide (n+1≤274877906944))&&true))))))))),[],uI k c (n+1) (out++[aL k i]) (IntKind.i64.wrap (i+1))):=by kernel_rfl
theorem SB (k:Int) (c:List Bool) (n:Nat) (out:List (List Int)) (i:Int):aH 0 (aA f135 0) (aD f135 0) (aK tt (aB T49) ([]) 0 100 (a6 0 (a7 f135)) (uI k c n out i) [(0,true),(0,false)])=
  some (.normal,(decide (i<8)&&(decide (0≤i)&&(decide (i<(↑c.length:Int))&&(decide (i.toNat<c.length)&&((!c.getD i.toNat false)&&true))))),[],uI k c (n) (out) (IntKind.i64.wrap (i+1))):=by kernel_rfl
theorem SC (k:Int) (c:List Bool) (n:Nat) (out:List (List Int)) (i:Int):aH 0 (aA f135 0) (aD f135 0) (aK tt (aB T49) ([]) 0 100 (a6 0 (a7 f135)) (uI k c n out i) [(0,false)])=
  some (.exit 0,((!decide (i<8))&&true),[],KY (n) (out)):=by kernel_rfl
noncomputable abbrev f62:=Tryz.f62
noncomputable def I62 (k:Int) (v:List Int) (n:Nat) (out:List Int) (i:Int):St:=
 bA f62.ntmps [(0,.c (.int .i64 k)),(1,.c (.view none (.ints .i64 v) v.length 1 none)),(5,.c (.sl 0 0 n 1 none)),(6,.c (.int .i64 i))] [.live (.ints .i64 out)]
noncomputable def X62 (n:Nat) (out:List Int):St:=bA f62.ntmps [(5,.c (.sl 0 0 n 1 none))] [.live (.ints .i64 out)]
theorem ZO (k:Int) (v:List Int) (n:Nat) (out:List Int) (i:Int):aH 0 (aA f62 0) (aD f62 0) (aK tt (aB T49) ([]) 0 100 (a6 0 (a7 f62)) (I62 k v n out i) [(0,true)])=
  some (.normal,(decide (i<8)&&(bet k 1 2&&(bet i 0 7&&(decide ((aL k i).length≤274877906944)&&(decide ((aL k i).length≤v.length)&&(a9 (aL k i)&&(a9 v&&(decide (n=out.length)&&((decide (n+1≤274877906944))&&true))))))))),[],I62 k v (n+1) (out++[aT (aL k i) v]) (IntKind.i64.wrap (i+1))):=by kernel_rfl
theorem ZP (k:Int) (v:List Int) (n:Nat) (out:List Int) (i:Int):aH 0 (aA f62 0) (aD f62 0) (aK tt (aB T49) ([]) 0 100 (a6 0 (a7 f62)) (I62 k v n out i) [(0,false)])=
  some (.exit 0,((!decide (i<8))&&true),[],X62 (n) (out)):=by kernel_rfl
end
section
def iU (m:List (List Int)) (v:List Int):Bool:=((k9 (cM m) v).length:Int)==((cM m).length:Int)
def GD:aQ:=fun args h=>
 match args,h with
 |[.c (.view _ (.ivs .i64 m) n 1 _),.c (.view _ (.ints .i64 v) n2 1 _)],[]=>
  some (.c (.bool (iU m v)),[],[decide (m.length≤274877906944),eS m,decide (v.length≤274877906944),decide ((cM m).length≤1000),j9 v.length (cM m),a9 v])
 |_,_=>none
theorem a6R:aV Tryz.prog 160 GD:=by
 intro args h res h' o hnorm he ho
 unfold GD at he
 split at he
 case h_2=>cases he
 rename_i nl m n cap nl2 v n2 cap2
 simp only[Option.some.injEq,Prod.mk.injEq]at he
 obtain⟨rfl,rfl,rfl⟩:=he
 simp only[List.mem_cons,List.not_mem_nil,or_false,forall_eq_or_imp,forall_eq,decide_eq_true_eq]at ho
 obtain⟨o1,o2,o3,o4,o5,o6⟩:=ho
 simp only[bG,AV.norm,bI,aJ.norm,Con.size,List.cons.injEq,AV.c.injEq,AV.agg.injEq,aJ.view.injEq,aN,true_and,and_true]at hnorm
 obtain⟨⟨rfl,rfl,rfl⟩,rfl,rfl,rfl⟩:=hnorm
 exact a5 t49 (by kernel_rfl) (by kernel_rfl) (UN m v) (by simp[o1,o2,o3,o4,o5,o6]) (by simp) (fun cc _=>aF.nil)
theorem j4 {k a:Int} (hk:bet k 1 2=true) (ha:bet a 0 7=true):(aL k a).length=4:=by
 refine JJ (q:=fun k a=>(aL k a).length=4) (fun i hi=> ?_) hk ha
 have all:cB (fun k=>decide ((aL ((k/8:Nat)+1:Int) (k%8:Nat)).length=4)) 16=true:=by kernel_rfl
 simpa using aY all i hi
def cdL (k:Int) (v:List Int):List Int:=[aT (aL k 0) v,aT (aL k 1) v,aT (aL k 2) v,aT (aL k 3) v,aT (aL k 4) v,aT (aL k 5) v,aT (aL k 6) v,aT (aL k 7) v]
theorem l62 (k:Int) (v:List Int) (hk:bet k 1 2=true) (hv:v.length=4) (hf:a9 v=true):
  aW Tryz.prog 0 (.block 0 (.loop (a6 0 (a7 f62)))) (I62 k v 0 [] 0) fun e t=>e=.normal∧t=X62 8 (cdL k v):=by
 refine(aW.count hT t49 bM (m:=0) (id:=0) (body:=a6 0 (a7 f62)) 8 (fun i o=>o.length=i) (fun i o=>I62 k v o.length o i) (fun o=>X62 o.length o) (fun i o=>o++[aT (aL k (i:Int)) v]) (aA f62 0) (aD f62 0)
  (fun _ _=>[]) (fun _ _ _ _=>aF.nil) (fun i o hi h=>⟨by simp[h], ?_⟩) (fun o h=>⟨_,_,⟨_,_,ZP k v o.length o (8:Nat),rfl,by simp⟩⟩)) [] rfl
 have e:=ZO k v o.length o i
 rw[aE (by omega) (by omega)]at e
 have hb:bet (i:Int) 0 7=true:=b8.2 ⟨by omega,by omega⟩
 have hl:=j4 hk hb
 rw[List.length_append]
 refine⟨_,_,⟨_,_,e, ?_,by simp⟩⟩
 simp only[hk,hb,hf,hR hk hb,bS]
 omega
theorem a32 (k:Int) (v:List Int):aG tt (aB T49) ([(0,⟨aA f62 0,I62 k v 0 [] 0,.normal,X62 8 (cdL k v)⟩)]) 100 f62 [.c (.int .i64 k),.c (.view none (.ints .i64 v) v.length 1 none)] [] []=
  some ⟨.c (.sl 0 0 8 1 none),[.live (.ints .i64 (cdL k v))],true,[I62 k v 0 [] 0=I62 k v 0 [] 0]⟩:=by kernel_rfl
def G2:aQ:=fun args h=>
 match args,h with
 |[.c (.int .i64 k),.c (.view _ (.ints .i64 v) n 1 _)],[]=>
  some (.c (.sl 0 0 8 1 none),[.live (.ints .i64 (cdL k v))],[bet k 1 2,decide (v.length=4),a9 v])
 |_,_=>none
theorem m62:aV Tryz.prog 62 G2:=by
 intro args h res h' o hnorm he ho
 unfold G2 at he
 split at he
 case h_2=>cases he
 rename_i k nl v n cap
 simp only[Option.some.injEq,Prod.mk.injEq]at he
 obtain⟨rfl,rfl,rfl⟩:=he
 simp only[List.mem_cons,List.not_mem_nil,or_false,forall_eq_or_imp,forall_eq,decide_eq_true_eq]at ho
 obtain⟨o1,o2,o3⟩:=ho
 simp only[bG,AV.norm,bI,aJ.norm,Con.size,List.cons.injEq,AV.c.injEq,AV.agg.injEq,aJ.view.injEq,aN,true_and,and_true]at hnorm
 obtain⟨rfl,rfl,rfl⟩:=hnorm
 exact a5 t49 (fn:=f62) (by kernel_rfl) (by kernel_rfl) (a32 k v) (by simp) (by simp) (fun cc hcc=>aF.cons (c:=cc) (by cases hcc;kernel_rfl) (by cases hcc;exact l62 k v o1 o2 o3) aF.nil)
def rwS (k:Int) (c:List Bool) (i:Nat) (o:List (List Int)):List (List Int):=bif c.getD i false then o++[aL k i]else o
def rwL (k:Int) (c:List Bool):List (List Int):=bP (rwS k c) 8 0 []
theorem a5P (k:Int) (c:List Bool) (hk:bet k 1 2=true) (hc:c.length=8):
  aW Tryz.prog 0 (.block 0 (.loop (a6 0 (a7 f135)))) (uI k c 0 [] 0) fun e t=>e=.normal∧t=KY (rwL k c).length (rwL k c):=by
 refine(aW.count hT t49 bM (m:=0) (id:=0) (body:=a6 0 (a7 f135)) 8 (fun i o=>o.length≤i) (fun i o=>uI k c o.length o i) (fun o=>KY o.length o) (rwS k c) (aA f135 0) (aD f135 0)
  (fun _ _=>[]) (fun _ _ _ _=>aF.nil) (fun i o hi h=> ?_) (fun o h=>⟨_,_,⟨_,_,SC k c o.length o (8:Nat),rfl,by simp⟩⟩)) [] (by simp)
 have hb:bet (i:Int) 0 7=true:=b8.2 ⟨by omega,by omega⟩
 unfold rwS
 cases hq:c.getD i false with
 |true=>
  refine⟨by simp;omega, ?_⟩
  have e:=SA k c o.length o i
  rw[aE (by omega) (by omega),Int.toNat_natCast]at e
  rw[cond_true,List.length_append]
  refine⟨_,_,⟨_,_,e, ?_,by simp⟩⟩
  simp only[hk,hb,hq,bS]
  omega
 |false=>
  refine⟨by rw[cond_false];omega, ?_⟩
  have e:=SB k c o.length o i
  rw[aE (by omega) (by omega),Int.toNat_natCast]at e
  rw[cond_false]
  refine⟨_,_,⟨_,_,e, ?_,by simp⟩⟩
  simp only[hq,bS]
  omega
theorem UR (k:Int) (c:List Bool):aG tt (aB T49) ([(0,⟨aA f135 0,uI k c 0 [] 0,.normal,KY (rwL k c).length (rwL k c)⟩)]) 100 f135 [.c (.int .i64 k),.c (.view none (.bools c) c.length 1 none)] [] []=
  some ⟨.c (.sl 0 0 (rwL k c).length 1 none),[.live (.ivs .i64 (rwL k c))],true,[uI k c 0 [] 0=uI k c 0 [] 0]⟩:=by kernel_rfl
def PU:aQ:=fun args h=>
 match args,h with
 |[.c (.int .i64 k),.c (.view _ (.bools c) n 1 _)],[]=>
  some (.c (.view none (.ivs .i64 (rwL k c)) (rwL k c).length 1 none),[],[bet k 1 2,decide (c.length=8)])
 |_,_=>none
theorem a6U:aV Tryz.prog 157 PU:=by
 intro args h res h' o hnorm he ho
 unfold PU at he
 split at he
 case h_2=>cases he
 rename_i k nl c n cap
 simp only[Option.some.injEq,Prod.mk.injEq]at he
 obtain⟨rfl,rfl,rfl⟩:=he
 simp only[List.mem_cons,List.not_mem_nil,or_false,forall_eq_or_imp,forall_eq,decide_eq_true_eq]at ho
 obtain⟨o1,o2⟩:=ho
 simp only[bG,AV.norm,bI,aJ.norm,Con.size,List.cons.injEq,AV.c.injEq,AV.agg.injEq,aJ.view.injEq,aN,true_and,and_true]at hnorm
 obtain⟨rfl,rfl,rfl⟩:=hnorm
 exact(a5 (f:=157) t49 (fn:=f135) (by kernel_rfl) (by kernel_rfl) (UR k c) (by simp) (by simp) (fun cc hcc=>aF.cons (c:=cc) (by cases hcc;kernel_rfl) (by cases hcc;exact a5P k c o1 o2) aF.nil)).views
  (o:=[decide ((rwL k c).length=(rwL k c).length)]) rfl (by simp)
theorem U3 (k:Int) (a b:List Int) (c:List Bool):aG tt (aB T49) ([]) 100 Tryz.f113 [.agg [.int .i64 k,.view none (.ints .i64 a) a.length 1 none,.view none (.ints .i64 b) b.length 1 none,.view none (.bools c) c.length 1 none]] [] []=
  some ⟨.agg [.int .i64 k,.sl 0 0 (0+a.length) 1 none,.sl 1 0 (0+b.length) 1 none,.sl 2 0 (0+c.length) 1 none],[.live (.ints .i64 ([]++a)),.live (.ints .i64 ([]++b)),.live (.bools ([]++c))],(decide (0+a.length≤274877906944)&&(decide (0+b.length≤274877906944)&&((decide (0+c.length≤274877906944))&&true))),[]⟩:=by kernel_rfl
def B5:aQ:=fun args h=>
 match args,h with
 |[.agg [.int .i64 k,.view _ (.ints .i64 a) n1 1 _,.view _ (.ints .i64 b) n2 1 _,.view _ (.bools c) n3 1 _]],[]=>
  some (.agg [.int .i64 k,.sl 0 0 a.length 1 none,.sl 1 0 b.length 1 none,.sl 2 0 c.length 1 none],[.live (.ints .i64 a),.live (.ints .i64 b),.live (.bools c)],[decide (a.length≤274877906944),decide (b.length≤274877906944),decide (c.length≤274877906944)])
 |_,_=>none
theorem a66:aV Tryz.prog 113 B5:=by
 intro args h res h' o hnorm he ho
 unfold B5 at he
 split at he
 case h_2=>cases he
 rename_i k nl1 a n1 cap1 nl2 b n2 cap2 nl3 c n3 cap3
 simp only[Option.some.injEq,Prod.mk.injEq]at he
 obtain⟨rfl,rfl,rfl⟩:=he
 simp only[List.mem_cons,List.not_mem_nil,or_false,forall_eq_or_imp,forall_eq,decide_eq_true_eq]at ho
 obtain⟨o1,o2,o3⟩:=ho
 simp only[bG,AV.norm,bI,aJ.norm,Con.size,List.cons.injEq,AV.c.injEq,AV.agg.injEq,aJ.view.injEq,aN,true_and,and_true]at hnorm
 obtain⟨⟨rfl,rfl,rfl⟩,⟨rfl,rfl,rfl⟩,rfl,rfl,rfl⟩:=hnorm
 have e:=U3 k a b c
 simp only[Nat.zero_add]at e
 exact a5 t49 (by kernel_rfl) (by kernel_rfl) e (by simp[o1,o2,o3]) (by simp) (fun cc _=>aF.nil)
noncomputable def T50:List bF:=[⟨160,[],nm GD⟩,⟨62,[],nm G2⟩,⟨157,[],nm PU⟩,⟨113,[],nm B5⟩]++T49
theorem e50:a8 Tryz.prog T50:=by
 refine a8.append ?_ e49
 intro e he
 simp only[List.mem_cons,List.not_mem_nil,or_false]at he
 rcases he with rfl|rfl|rfl|rfl
 ·exact a6R.ok
 ·exact m62.ok
 ·exact a6U.ok
 ·exact a66.ok
theorem t50:bN Tryz.prog (aB T50):=aP e50
theorem U6 (k:Int) (c:List Bool):aG tt (aB T50) ([]) 100 Tryz.f114 [.c (.int .i64 k),.c (.view none (.bools c) c.length 1 none)] [] [(0,true),(0,true)]=
  some ⟨.c (.bool (bif bif bet k 1 2 then(↑c.length:Int)==8 else false then(↑(cM (rwL k c)).length:Int)==4 else false)),[],(bet k 1 2&&(bet k 1 2&&(bet k 1 2&&((bif bet k 1 2 then(↑c.length:Int)==8 else false)&&((bif bet k 1 2 then(↑c.length:Int)==8 else false)&&((bif bet k 1 2 then(↑c.length:Int)==8 else false)&&(bet k 1 2&&(decide (c.length=8)&&((bif bet k 1 2 then(↑c.length:Int)==8 else false)&&(decide ((rwL k c).length≤274877906944)&&(eS (rwL k c)&&((bif bet k 1 2 then(↑c.length:Int)==8 else false)&&((bif bet k 1 2 then(↑c.length:Int)==8 else false)&&true))))))))))))),[]⟩:=by kernel_rfl
theorem U7 (k:Int) (c:List Bool):aG tt (aB T50) ([]) 100 Tryz.f114 [.c (.int .i64 k),.c (.view none (.bools c) c.length 1 none)] [] [(0,true),(0,false)]=
  some ⟨.c (.bool false),[],(bet k 1 2&&(bet k 1 2&&(bet k 1 2&&((!bif bet k 1 2 then(↑c.length:Int)==8 else false)&&((!bif bet k 1 2 then(↑c.length:Int)==8 else false)&&((!bif bet k 1 2 then(↑c.length:Int)==8 else false)&&((!bif bet k 1 2 then(↑c.length:Int)==8 else false)&&((!bif bet k 1 2 then(↑c.length:Int)==8 else false)&&((!bif bet k 1 2 then(↑c.length:Int)==8 else false)&&((!bif bet k 1 2 then(↑c.length:Int)==8 else false)&&true)))))))))),[]⟩:=by kernel_rfl
theorem U8 (k:Int) (c:List Bool):aG tt (aB T50) ([]) 100 Tryz.f114 [.c (.int .i64 k),.c (.view none (.bools c) c.length 1 none)] [] [(0,false)]=
  some ⟨.c (.bool false),[],(!bet k 1 2&&(!bet k 1 2&&(!bet k 1 2&&((!bet k 1 2)&&true)))),[]⟩:=by kernel_rfl
theorem JC:aS Tryz.prog 54 (dZ tt (aB T50) Tryz.f54 []):=d6 hT t50 bM [] (by kernel_rfl) (by kernel_rfl)
end
end Go.Proofs.YthapjdpkelihiaaGreat.Am
