/- DERIVED. Part 6 of the proof: C34, C35, C36, C37, C38, C39, Am32, C41, C42, C43. No statement of the program is proved here. -/
import Derived.Test.YtdnfojanjejdgaaGreatX05
set_option linter.unusedSimpArgs false
set_option linter.unusedVariables false
set_option linter.unusedSectionVars false
namespace Go.Proofs.YtdnfojanjejdgaaGreat.Am
section
def BM:aM:=fun args h=>
 match args,h with
 |[.c (.sl 0 0 n 1 none),.c (.fn 216 [.ptr 1 0 0 0])],[.live (.ints .i64 v),.live (.cells [.int .i64 k,.view nl1 (.ints .i64 a) n1 1 cap1,.view nl2 (.ints .i64 b) n2 1 cap2,.view nl3 (.bools c) n3 1 cap3])]=>
  some (.c (.int .i64 (eD (fun x=> !cE k a (ofL b c x)) v)),[.live (.ints .i64 v),.live (.cells [.int .i64 k,.view nl1 (.ints .i64 a) n1 1 cap1,.view nl2 (.ints .i64 b) n2 1 cap2,.view nl3 (.bools c) n3 1 cap3])],[decide (v.length≤274877906944),decide (v.length=n),decide (c.length=8),decide (b.length=8),bet k 1 2,decide (a.length=8),aA a])
 |_,_=>none
theorem OX (k:Int) (n1 n2 n3:Nat) (nl1 nl2 nl3:Option Bool) (cap1 cap2 cap3:Option Nat) (a b:List Int) (c:List Bool) (v:List Int):aE tt (a9 T37) ([(0,⟨a6 eQ 0,jD k n1 n2 n3 nl1 nl2 nl3 cap1 cap2 cap3 a b c v 0,.normal,HM k n1 n2 n3 nl1 nl2 nl3 cap1 cap2 cap3 a b c v⟩)]) 100 eQ [.c (.sl 0 0 v.length 1 none),.c (.fn 216 [.ptr 1 0 0 0])] [.live (.ints .i64 v),.live (.cells [.int .i64 k,.view nl1 (.ints .i64 a) n1 1 cap1,.view nl2 (.ints .i64 b) n2 1 cap2,.view nl3 (.bools c) n3 1 cap3])] []=
  some ⟨.c (.int .i64 (-1)),[.live (.ints .i64 v),.live (.cells [.int .i64 k,.view nl1 (.ints .i64 a) n1 1 cap1,.view nl2 (.ints .i64 b) n2 1 cap2,.view nl3 (.bools c) n3 1 cap3])],true,[jD k n1 n2 n3 nl1 nl2 nl3 cap1 cap2 cap3 a b c v 0=jD k n1 n2 n3 nl1 nl2 nl3 cap1 cap2 cap3 a b c v 0]⟩:=by kernel_rfl
theorem OY (k:Int) (n1 n2 n3:Nat) (nl1 nl2 nl3:Option Bool) (cap1 cap2 cap3:Option Nat) (a b:List Int) (c:List Bool) (v:List Int) (j:Nat):aE tt (a9 T37) ([(0,⟨a6 eQ 0,jD k n1 n2 n3 nl1 nl2 nl3 cap1 cap2 cap3 a b c v 0,.ret,HR k n1 n2 n3 nl1 nl2 nl3 cap1 cap2 cap3 a b c v j⟩)]) 100 eQ [.c (.sl 0 0 v.length 1 none),.c (.fn 216 [.ptr 1 0 0 0])] [.live (.ints .i64 v),.live (.cells [.int .i64 k,.view nl1 (.ints .i64 a) n1 1 cap1,.view nl2 (.ints .i64 b) n2 1 cap2,.view nl3 (.bools c) n3 1 cap3])] []=
  some ⟨.c (.int .i64 (↑j:Int)),[.live (.ints .i64 v),.live (.cells [.int .i64 k,.view nl1 (.ints .i64 a) n1 1 cap1,.view nl2 (.ints .i64 b) n2 1 cap2,.view nl3 (.bools c) n3 1 cap3])],true,[jD k n1 n2 n3 nl1 nl2 nl3 cap1 cap2 cap3 a b c v 0=jD k n1 n2 n3 nl1 nl2 nl3 cap1 cap2 cap3 a b c v 0]⟩:=by kernel_rfl
theorem YP:aQ Tryz.prog 122 BM:=by
 intro args h res h' o he ho
 unfold BM at he
 split at he
 case h_2=>cases he
 rename_i n v k nl1 a n1 cap1 nl2 b n2 cap2 nl3 c n3 cap3
 simp only[Option.some.injEq,Prod.mk.injEq]at he
 obtain⟨rfl,rfl,rfl⟩:=he
 simp only[List.mem_cons,List.not_mem_nil,or_false,forall_eq_or_imp,forall_eq,decide_eq_true_eq]at ho
 obtain⟨o1,o2,o3,o4,o5,o6,o7⟩:=ho
 subst o2
 have g:=Y7 k n1 n2 n3 nl1 nl2 nl3 cap1 cap2 cap3 a b c v o1 (by omega) (by omega) o5 o6 o7 (fun i hi=>⟨(tN o3).2,(tN o3).1,AW o5 o3⟩)
 unfold eD
 cases hx:eU (fun x=> !cE k a (ofL b c x)) v with
 |none=>
  rw[hx]at g
  exact mo (fn:=eQ) t37 (OX k n1 n2 n3 nl1 nl2 nl3 cap1 cap2 cap3 a b c v) rfl (hlc:=(fun cc hc=>aK.cons (c:=cc) (by cases hc;kernel_rfl) (by cases hc;exact g) aK.nil))
 |some j=>
  rw[hx]at g
  exact mo (fn:=eQ) t37 (OY k n1 n2 n3 nl1 nl2 nl3 cap1 cap2 cap3 a b c v j) rfl (hlc:=(fun cc hc=>aK.cons (c:=cc) (by cases hc;kernel_rfl) (by cases hc;exact g) aK.nil))
noncomputable def T38:List aZ:=[⟨122,[0,1],BM⟩]++T37
theorem e38:a7 Tryz.prog T38:=by
 refine a7.append ?_ e37
 intro e he
 simp only[List.mem_cons,List.not_mem_nil,or_false]at he
 subst he;exact YP
theorem t38:bK Tryz.prog (a9 T38):=aO e38
theorem OQ (k:Int) (n1 n2 n3:Nat) (nl1 nl2 nl3:Option Bool) (cap1 cap2 cap3:Option Nat) (a b:List Int) (c:List Bool) (v:List Int):aE tt (a9 T38) ([]) 100 Tryz.f68 [.c (.sl 0 0 v.length 1 none),.c (.fn 216 [.ptr 1 0 0 0])] [.live (.ints .i64 v),.live (.cells [.int .i64 k,.view nl1 (.ints .i64 a) n1 1 cap1,.view nl2 (.ints .i64 b) n2 1 cap2,.view nl3 (.bools c) n3 1 cap3])] []=
  some ⟨.c (.bool (decide (eD (fun x=> !cE k a (ofL b c x)) v≥0))),[.live (.ints .i64 v),.live (.cells [.int .i64 k,.view nl1 (.ints .i64 a) n1 1 cap1,.view nl2 (.ints .i64 b) n2 1 cap2,.view nl3 (.bools c) n3 1 cap3])],(decide (v.length≤274877906944)&&(decide (v.length=v.length)&&(decide (c.length=8)&&(decide (b.length=8)&&(bet k 1 2&&(decide (a.length=8)&&((aA a)&&true))))))),[]⟩:=by kernel_rfl
theorem JN (q:Int→Bool) (v:List Int):decide (eD (fun x=> !q x) v≥0)= !v.all q:=by
 unfold eD
 cases h:eU (fun x=> !q x) v with
 |none=>
  have:=m9 h
  have ha:v.all q=true:=by
   rw[List.all_eq_true]
   intro x hx
   obtain⟨i,hi⟩:=List.getElem?_of_mem hx
   have hlt:=(List.getElem?_eq_some_iff.1 hi).1
   have h1:=this i (by omega) (by omega)
   rw[List.getD_eq_getElem?_getD,hi]at h1
   simpa using h1
  rw[ha];decide
 |some j=>
  obtain⟨h1,h2,h3,h4⟩:=mA h
  have ha:v.all q=false:=by
   rw[List.all_eq_false]
   refine⟨v.getD j 0, ?_,by simpa using h3⟩
   rw[List.getD_eq_getElem?_getD,List.getElem?_eq_getElem (by omega)]
   exact List.getElem_mem _
  rw[ha]
  dsimp only
  simp
def BH:aM:=fun args h=>
 match args,h with
 |[.c (.sl 0 0 n 1 none),.c (.fn 216 [.ptr 1 0 0 0])],[.live (.ints .i64 v),.live (.cells [.int .i64 k,.view nl1 (.ints .i64 a) n1 1 cap1,.view nl2 (.ints .i64 b) n2 1 cap2,.view nl3 (.bools c) n3 1 cap3])]=>
  some (.c (.bool (!v.all fun x=>cE k a (ofL b c x))),[.live (.ints .i64 v),.live (.cells [.int .i64 k,.view nl1 (.ints .i64 a) n1 1 cap1,.view nl2 (.ints .i64 b) n2 1 cap2,.view nl3 (.bools c) n3 1 cap3])],[decide (v.length≤274877906944),decide (v.length=n),decide (c.length=8),decide (b.length=8),bet k 1 2,decide (a.length=8),aA a])
 |_,_=>none
theorem YN:aQ Tryz.prog 68 BH:=by
 intro args h res h' o he ho
 unfold BH at he
 split at he
 case h_2=>cases he
 rename_i n v k nl1 a n1 cap1 nl2 b n2 cap2 nl3 c n3 cap3
 simp only[Option.some.injEq,Prod.mk.injEq]at he
 obtain⟨rfl,rfl,rfl⟩:=he
 simp only[List.mem_cons,List.not_mem_nil,or_false,forall_eq_or_imp,forall_eq,decide_eq_true_eq]at ho
 obtain⟨o1,o2,o3,o4,o5,o6,o7⟩:=ho
 subst o2
 have e:=OQ k n1 n2 n3 nl1 nl2 nl3 cap1 cap2 cap3 a b c v
 rw[JN (fun x=>cE k a (ofL b c x))]at e
 exact mo t38 e (by simp[o1,o3,o4,o5,o6,o7])
noncomputable def T39:List aZ:=[⟨68,[0,1],BH⟩]++T38
theorem e39:a7 Tryz.prog T39:=by
 refine a7.append ?_ e38
 intro e he
 simp only[List.mem_cons,List.not_mem_nil,or_false]at he
 subst he;exact YN
theorem t39:bK Tryz.prog (a9 T39):=aO e39
noncomputable abbrev f72:=Tryz.f180
end
section
noncomputable def I72 (k:Int) (a b:List Int) (c:List Bool) (i:Int):St:=
  aR f72.ntmps [(1,.c (.ptr 0 0 0 0)),(15,.c (.view none (.bools c) c.length 1 none)),(16,.c (.int .i64 c.length)),(17,.c (.int .i64 i))]
   [.live (.cells [.int .i64 k,.view none (.ints .i64 a) a.length 1 none,.view none (.ints .i64 b) b.length 1 none,.view none (.bools c) c.length 1 none])]
noncomputable def X72 (k:Int) (a b:List Int) (c:List Bool):St:=
  aR f72.ntmps [(1,.c (.ptr 0 0 0 0))]
   [.live (.cells [.int .i64 k,.view none (.ints .i64 a) a.length 1 none,.view none (.ints .i64 b) b.length 1 none,.view none (.bools c) c.length 1 none])]
noncomputable def Y72 (k:Int) (a b:List Int) (c:List Bool):St:=
  aR f72.ntmps [(1,.c (.ptr 0 0 0 0)),(2,.c (.bool false))]
   [.live (.cells [.int .i64 k,.view none (.ints .i64 a) a.length 1 none,.view none (.ints .i64 b) b.length 1 none,.view none (.bools c) c.length 1 none])]
theorem a04 (k:Int) (a b:List Int) (c:List Bool) (i:Int):aC 0 (a6 f72 0) (a8 f72 0) (aD tt (a9 T39) ([]) 0 100 (a5 0 (a0 f72)) (I72 k a b c i) [(0,true),(0,true),(0,true),(0,true)])=
  some (.ret,(decide (i<(↑c.length:Int))&&(decide (0≤i)&&(decide (i<(↑c.length:Int))&&(decide (i.toNat<c.length)&&(rp4 (c.getD i.toNat false) (decide (0≤i)&&(decide (i<(↑a.length:Int))&&((c.getD i.toNat false)&&(decide (i.toNat<a.length)&&(rp3 (c.getD i.toNat false) (rp7 (!fok (a.getD i.toNat 0)) ((c.getD i.toNat false)&&(!fok (a.getD i.toNat 0)&&(rp5 (bif c.getD i.toNat false then true else false) true)))))))))))))),[],Y72 k a b c):=by kernel_rfl
theorem a05 (k:Int) (a b:List Int) (c:List Bool) (i:Int):aC 0 (a6 f72 0) (a8 f72 0) (aD tt (a9 T39) ([]) 0 100 (a5 0 (a0 f72)) (I72 k a b c i) [(0,true),(0,true),(0,false),(0,true)])=
  some (.ret,(decide (i<(↑c.length:Int))&&(decide (0≤i)&&(decide (i<(↑c.length:Int))&&(decide (i.toNat<c.length)&&(rp4 (c.getD i.toNat false) (decide (0≤i)&&(decide (i<(↑a.length:Int))&&((c.getD i.toNat false)&&(decide (i.toNat<a.length)&&(rp3 (c.getD i.toNat false) (rp4 (!!fok (a.getD i.toNat 0)) (decide (0≤i)&&(decide (i<(↑b.length:Int))&&(!!fok (a.getD i.toNat 0)&&(decide (i.toNat<b.length)&&(rp2 (!!fok (a.getD i.toNat 0)) ((c.getD i.toNat false)&&(rp5 (bif c.getD i.toNat false then bif !fok (a.getD i.toNat 0)then true else !bet (b.getD i.toNat 0) 1 99 else false) true)))))))))))))))))),[],Y72 k a b c):=by kernel_rfl
theorem a06 (k:Int) (a b:List Int) (c:List Bool) (i:Int):aC 0 (a6 f72 0) (a8 f72 0) (aD tt (a9 T39) ([]) 0 100 (a5 0 (a0 f72)) (I72 k a b c i) [(0,true),(0,true),(0,false),(0,false),(0,false),(0,false)])=
  some (.normal,(decide (i<(↑c.length:Int))&&(decide (0≤i)&&(decide (i<(↑c.length:Int))&&(decide (i.toNat<c.length)&&(rp4 (c.getD i.toNat false) (decide (0≤i)&&(decide (i<(↑a.length:Int))&&((c.getD i.toNat false)&&(decide (i.toNat<a.length)&&(rp3 (c.getD i.toNat false) (rp4 (!!fok (a.getD i.toNat 0)) (decide (0≤i)&&(decide (i<(↑b.length:Int))&&(!!fok (a.getD i.toNat 0)&&(decide (i.toNat<b.length)&&(rp2 (!!fok (a.getD i.toNat 0)) ((c.getD i.toNat false)&&(rp3 (!bif c.getD i.toNat false then bif !fok (a.getD i.toNat 0)then true else !bet (b.getD i.toNat 0) 1 99 else false) (rp8 (!!c.getD i.toNat false) ((!bif c.getD i.toNat false then bif !fok (a.getD i.toNat 0)then true else !bet (b.getD i.toNat 0) 1 99 else false)&&((!!c.getD i.toNat false)&&((!bif bif c.getD i.toNat false then bif !fok (a.getD i.toNat 0)then true else !bet (b.getD i.toNat 0) 1 99 else false then true else false)&&true)))))))))))))))))))))),[],I72 k a b c (IntKind.i64.wrap (i+1))):=by kernel_rfl
theorem a07 (k:Int) (a b:List Int) (c:List Bool) (i:Int):aC 0 (a6 f72 0) (a8 f72 0) (aD tt (a9 T39) ([]) 0 100 (a5 0 (a0 f72)) (I72 k a b c i) [(0,true),(0,false),(1,true),(0,true),(0,true)])=
  some (.ret,(decide (i<(↑c.length:Int))&&(decide (0≤i)&&(decide (i<(↑c.length:Int))&&(decide (i.toNat<c.length)&&(rp5 (!c.getD i.toNat false) (rp9 (!c.getD i.toNat false) (decide (0≤i)&&(decide (i<(↑a.length:Int))&&((!c.getD i.toNat false)&&(decide (i.toNat<a.length)&&(rp2 (!c.getD i.toNat false) (rp6 (a.getD i.toNat 0 !=0) ((!c.getD i.toNat false)&&((a.getD i.toNat 0 !=0)&&((bif !c.getD i.toNat false then true else false)&&true))))))))))))))),[],Y72 k a b c):=by kernel_rfl
theorem a08 (k:Int) (a b:List Int) (c:List Bool) (i:Int):aC 0 (a6 f72 0) (a8 f72 0) (aD tt (a9 T39) ([]) 0 100 (a5 0 (a0 f72)) (I72 k a b c i) [(0,true),(0,false),(1,true),(0,false),(0,true)])=
  some (.ret,(decide (i<(↑c.length:Int))&&(decide (0≤i)&&(decide (i<(↑c.length:Int))&&(decide (i.toNat<c.length)&&(rp5 (!c.getD i.toNat false) (rp9 (!c.getD i.toNat false) (decide (0≤i)&&(decide (i<(↑a.length:Int))&&((!c.getD i.toNat false)&&(decide (i.toNat<a.length)&&(rp2 (!c.getD i.toNat false) (rp4 (!a.getD i.toNat 0 !=0) (decide (0≤i)&&(decide (i<(↑b.length:Int))&&((!a.getD i.toNat 0 !=0)&&(decide (i.toNat<b.length)&&((!a.getD i.toNat 0 !=0)&&((!c.getD i.toNat false)&&((bif !c.getD i.toNat false then bif a.getD i.toNat 0 !=0 then true else b.getD i.toNat 0 !=0 else false)&&true))))))))))))))))))),[],Y72 k a b c):=by kernel_rfl
theorem a09 (k:Int) (a b:List Int) (c:List Bool) (i:Int):aC 0 (a6 f72 0) (a8 f72 0) (aD tt (a9 T39) ([]) 0 100 (a5 0 (a0 f72)) (I72 k a b c i) [(0,true),(0,false),(1,true),(0,false),(0,false)])=
  some (.normal,(decide (i<(↑c.length:Int))&&(decide (0≤i)&&(decide (i<(↑c.length:Int))&&(decide (i.toNat<c.length)&&(rp5 (!c.getD i.toNat false) (rp9 (!c.getD i.toNat false) (decide (0≤i)&&(decide (i<(↑a.length:Int))&&((!c.getD i.toNat false)&&(decide (i.toNat<a.length)&&(rp2 (!c.getD i.toNat false) (rp4 (!a.getD i.toNat 0 !=0) (decide (0≤i)&&(decide (i<(↑b.length:Int))&&((!a.getD i.toNat 0 !=0)&&(decide (i.toNat<b.length)&&((!a.getD i.toNat 0 !=0)&&((!c.getD i.toNat false)&&((!bif !c.getD i.toNat false then bif a.getD i.toNat 0 !=0 then true else b.getD i.toNat 0 !=0 else false)&&true))))))))))))))))))),[],I72 k a b c (IntKind.i64.wrap (i+1))):=by kernel_rfl
theorem a0A (k:Int) (a b:List Int) (c:List Bool) (i:Int):aC 0 (a6 f72 0) (a8 f72 0) (aD tt (a9 T39) ([]) 0 100 (a5 0 (a0 f72)) (I72 k a b c i) [(0,false)])=
  some (.exit 0,((!decide (i<(↑c.length:Int)))&&true),[],X72 k a b c):=by kernel_rfl
def nQ (a b:List Int) (c:List Bool) (i:Nat):Bool:=bif c.getD i false then fok (a.getD i 0)&&bet (b.getD i 0) 1 99 else !(a.getD i 0 !=0)&& !(b.getD i 0 !=0)
theorem l72 (k:Int) (a b:List Int) (c:List Bool) (ha:a.length=8) (hb:b.length=8) (hc:c.length=8):
  aN none Tryz.prog 0 (.block 0 (.loop (a5 0 (a0 f72)))) (I72 k a b c 0) fun e t=>e=(bif cH (nQ a b c) 8 0 then .normal else .ret)∧t=bif cH (nQ a b c) 8 0 then X72 k a b c else Y72 k a b c:=by
 refine aN.all (ro:=none) hT t39 bF 8 (nQ a b c) (fun i=>I72 k a b c i) (X72 k a b c) (Y72 k a b c) .ret (.inr rfl) (a6 f72 0) (a8 f72 0) (fun _=>[]) (fun _ _=>aK.nil) (fun i hi h=> ?_) (fun i hi h=> ?_)
  ⟨_,_,⟨_,_,a0A k a b c (8:Nat),by rw[hc];rfl,by simp⟩⟩
 ·unfold nQ at h
  cases h1:c.getD i false with
  |true=>
   rw[h1,cond_true,Bool.and_eq_true]at h
   obtain⟨h2,h3⟩:=h
   have e:=a06 k a b c i
   rw[aB (by omega) (by omega),Int.toNat_natCast]at e
   refine⟨_,_,⟨_,_,e, ?_,by simp⟩⟩
   simp only[h1,h2,h3,Bool.not_true,Bool.not_false,cond_true,cond_false,Bool.true_and,rpS,Bool.and_true,Bool.and_eq_true,decide_eq_true_eq,true_and,and_true]
   omega
  |false=>
   rw[h1,cond_false,Bool.and_eq_true,Bool.not_eq_true',Bool.not_eq_true']at h
   obtain⟨h2,h3⟩:=h
   have e:=a09 k a b c i
   rw[aB (by omega) (by omega),Int.toNat_natCast]at e
   refine⟨_,_,⟨_,_,e, ?_,by simp⟩⟩
   simp only[h1,h2,h3,Bool.not_true,Bool.not_false,cond_true,cond_false,Bool.true_and,rpS,Bool.and_true,Bool.and_eq_true,decide_eq_true_eq,true_and,and_true]
   omega
 ·unfold nQ at h
  rw[if_neg (by intro h;cases h)]
  cases h1:c.getD i false with
  |true=>
   rw[h1,cond_true]at h
   cases h2:fok (a.getD i 0)with
   |false=>
    have e:=a04 k a b c i
    rw[Int.toNat_natCast]at e
    refine⟨_,_,⟨_,_,e, ?_,by simp⟩⟩
    simp only[h1,h2,Bool.not_true,Bool.not_false,cond_true,cond_false,Bool.true_and,rpS,Bool.and_true,Bool.and_eq_true,decide_eq_true_eq,true_and,and_true]
    omega
   |true=>
    rw[h2,Bool.true_and]at h
    have e:=a05 k a b c i
    rw[Int.toNat_natCast]at e
    refine⟨_,_,⟨_,_,e, ?_,by simp⟩⟩
    simp only[h1,h2,h,Bool.not_true,Bool.not_false,cond_true,cond_false,Bool.true_and,rpS,Bool.and_true,Bool.and_eq_true,decide_eq_true_eq,true_and,and_true]
    omega
  |false=>
   rw[h1,cond_false]at h
   cases h2:a.getD i 0 !=0 with
   |true=>
    have e:=a07 k a b c i
    rw[Int.toNat_natCast]at e
    refine⟨_,_,⟨_,_,e, ?_,by simp⟩⟩
    simp only[h1,h2,Bool.not_true,Bool.not_false,cond_true,cond_false,Bool.true_and,rpS,Bool.and_true,Bool.and_eq_true,decide_eq_true_eq,true_and,and_true]
    omega
   |false=>
    rw[h2,Bool.not_false,Bool.true_and,Bool.not_eq_false']at h
    have e:=a08 k a b c i
    rw[Int.toNat_natCast]at e
    refine⟨_,_,⟨_,_,e, ?_,by simp⟩⟩
    simp only[h1,h2,h,Bool.not_true,Bool.not_false,cond_true,cond_false,Bool.true_and,rpS,Bool.and_true,Bool.and_eq_true,decide_eq_true_eq,true_and,and_true]
    omega
theorem AO {a b:List Int} {c:List Bool} (ha:a.length=8) (h:cH (nQ a b c) 8 0=true):aA a=true:=by
 have key: ∀i,i<8→fok (a.getD i 0)=true:=fun i hi=>by
  have:=cC.1 h i (by omega) (by omega)
  unfold nQ at this
  cases h1:c.getD i false with
  |true=>rw[h1,cond_true,Bool.and_eq_true]at this;exact this.1
  |false=>
   rw[h1,cond_false,Bool.and_eq_true,Bool.not_eq_true']at this
   have h2:a.getD i 0=0:=by simpa using this.1
   rw[h2];rfl
 simp only[aA,List.all_eq_true]
 intro x hx
 obtain⟨i,hi⟩:=List.getElem?_of_mem hx
 have hlt:=(List.getElem?_eq_some_iff.1 hi).1
 have:=key i (by omega)
 rw[List.getD_eq_getElem?_getD,hi]at this
 simpa using this
theorem W8 (k:Int) (a b:List Int) (c:List Bool):aE tt (a9 T39) ([(0,⟨a6 f72 0,I72 k a b c 0,.normal,X72 k a b c⟩)]) 100 f72 [.agg [.int .i64 k,.view none (.ints .i64 a) a.length 1 none,.view none (.ints .i64 b) b.length 1 none,.view none (.bools c) c.length 1 none]] [] [(0,false),(0,false)]=
  some ⟨.c (.bool !!(bJ b c).all fun x=>cE k a (ofL b c x)),[],(rp3 (!!bet k 1 2) ((!bif !bet k 1 2 then true else !cZ a b c)&&(decide (c.length≤8)&&(decide (b.length=c.length)&&(decide ((bJ b c).length≤274877906944)&&(decide ((bJ b c).length=(bJ b c).length)&&(decide (c.length=8)&&(decide (b.length=8)&&(bet k 1 2&&(decide (a.length=8)&&((aA a)&&true))))))))))),[I72 k a b c 0=I72 k a b c 0]⟩:=by kernel_rfl
theorem W9 (k:Int) (a b:List Int) (c:List Bool):aE tt (a9 T39) ([(0,⟨a6 f72 0,I72 k a b c 0,.ret,Y72 k a b c⟩)]) 100 f72 [.agg [.int .i64 k,.view none (.ints .i64 a) a.length 1 none,.view none (.ints .i64 b) b.length 1 none,.view none (.bools c) c.length 1 none]] [] [(0,false),(0,false)]=
  some ⟨.c (.bool false),[],(rp3 (!!bet k 1 2) ((!bif !bet k 1 2 then true else !cZ a b c)&&true)),[I72 k a b c 0=I72 k a b c 0]⟩:=by kernel_rfl
theorem WA (k:Int) (a b:List Int) (c:List Bool):aE tt (a9 T39) ([]) 100 f72 [.agg [.int .i64 k,.view none (.ints .i64 a) a.length 1 none,.view none (.ints .i64 b) b.length 1 none,.view none (.bools c) c.length 1 none]] [] [(0,true)]=
  some ⟨.c (.bool false),[],(rp3 (!bet k 1 2) ((!bet k 1 2)&&true)),[]⟩:=by kernel_rfl
theorem WB (k:Int) (a b:List Int) (c:List Bool):aE tt (a9 T39) ([]) 100 f72 [.agg [.int .i64 k,.view none (.ints .i64 a) a.length 1 none,.view none (.ints .i64 b) b.length 1 none,.view none (.bools c) c.length 1 none]] [] [(0,false),(0,true)]=
  some ⟨.c (.bool false),[],(rp3 (!!bet k 1 2) ((bif !bet k 1 2 then true else !cZ a b c)&&true)),[]⟩:=by kernel_rfl
theorem vK (v:List Int): ∀n,(eO v n).length≤n
 |0=>by simp[eO]
 |n+1=>by
  have:=vK v n
  simp only[eO]
  cases Nat.beq n 0||v.getD n 0 !=v.getD (n-1) 0
  ·rw[cond_false];omega
  ·rw[cond_true,List.length_append,List.length_singleton];omega
theorem wM (b:List Int) (c:List Bool):(bJ b c).length≤c.length:=by
 have h:=vK (j6 (cV (cQ b (flg c)))) (j6 (cV (cQ b (flg c)))).length
 rw[tU,pH,pK]at h
 have:=n7 c
 unfold bJ jE
 rw[tU,pH,pK]
 omega
def bZ (k:Int) (a b:List Int) (c:List Bool):Bool:=bet k 1 2&&(cZ a b c&&(cH (nQ a b c) 8 0&&(bJ b c).all fun x=>cE k a (ofL b c x)))
theorem f5 {a b:List Int} {c:List Bool}:cZ a b c=true↔a.length=8∧b.length=8∧c.length=8:=by
 simp only[cZ,Bool.and_eq_true,rpS,beq_iff_eq];omega
def H3:aM:=fun args h=>
 match args,h with
 |[.agg [.int .i64 k,.view _ (.ints .i64 a) n1 1 _,.view _ (.ints .i64 b) n2 1 _,.view _ (.bools c) n3 1 _]],[]=>
  some (.c (.bool (bZ k a b c)),[],[])
 |_,_=>none
theorem m72:aS Tryz.prog 180 H3:=by
 intro args h res h' o hnorm he ho
 unfold H3 at he
 split at he
 case h_2=>cases he
 rename_i k nl1 a n1 cap1 nl2 b n2 cap2 nl3 c n3 cap3
 simp only[Option.some.injEq,Prod.mk.injEq]at he
 obtain⟨rfl,rfl,rfl⟩:=he
 simp only[b8,AV.norm,bA,aF.norm,Con.size,List.cons.injEq,AV.c.injEq,AV.agg.injEq,aF.view.injEq,aL,true_and,and_true]at hnorm
 obtain⟨⟨rfl,rfl,rfl⟩,⟨rfl,rfl,rfl⟩,rfl,rfl,rfl⟩:=hnorm
 unfold bZ
 cases h1:bet k 1 2 with
 |false=>exact mo t39 (WA k a b c) (by rw[h1];rfl)
 |true=>
  cases h2:cZ a b c with
  |false=>exact mo t39 (WB k a b c) (by rw[h1,h2];rfl)
  |true=>
   obtain⟨ha,hb,hc⟩:=f5.1 h2
   have g:=l72 k a b c ha hb hc
   have hv:=wM b c
   cases h3:cH (nQ a b c) 8 0 with
   |false=>
    rw[h3]at g
    exact mo (fn:=f72) t39 (W9 k a b c) (by rw[h1,h2];rfl) (hlc:=(fun cc hcc=>aK.cons (c:=cc) (by cases hcc;kernel_rfl) (by cases hcc;exact g) aK.nil))
   |true=>
    rw[h3]at g
    have e:=W8 k a b c
    rw[Bool.not_not]at e
    exact mo (fn:=f72) t39 e (by
     rw[h1,h2,AO ha h3]
     simp only[Bool.not_true,Bool.not_false,cond_false,Bool.true_and,rpS,Bool.and_true,Bool.and_eq_true,decide_eq_true_eq,true_and,and_true]
     omega) (hlc:=(fun cc hcc=>aK.cons (c:=cc) (by cases hcc;kernel_rfl) (by cases hcc;exact g) aK.nil))
noncomputable def T40:List aZ:=[⟨180,[],nm H3⟩]++T39
theorem e40:a7 Tryz.prog T40:=by
 refine a7.append ?_ e39
 intro e he
 simp only[List.mem_cons,List.not_mem_nil,or_false]at he
 subst he;exact m72.ok
noncomputable abbrev f65:=Tryz.f131
end
section
def rdB (k:Int) (w v:List Int):Bool:=c7 k v&&cE k w v
def U7 (k:Int) (w v:List Int):List Int:=[(dL k w v).getD 0 0,(dL k w v).getD 1 0,(dL k w v).getD 2 0,(dL k w v).getD 3 0]
def rdX (k:Int) (w v:List Int):List Int:=bif rdB k w v then U7 k w v else []
def BW:aM:=fun args h=>
 match args,h with
 |[.c (.int .i64 k),.c (.view _ (.ints .i64 w) n 1 _),.c (.view _ (.ints .i64 v) n2 1 _)],[]=>
  some (.tup [.c (.sl 0 0 (rdX k w v).length 1 none),.c (.bool (rdB k w v))],[.live (.ints .i64 (rdX k w v))],[decide (v.length≤8),bet k 1 2,bC v,decide (w.length=8),aA w,dO k w v])
 |_,_=>none
theorem YM:aS Tryz.prog 183 BW:=by
 intro args h res h' o hnorm he ho
 unfold BW at he
 split at he
 case h_2=>cases he
 rename_i k nl w n cap nl2 v n2 cap2
 simp only[Option.some.injEq,Prod.mk.injEq]at he
 obtain⟨rfl,rfl,rfl⟩:=he
 simp only[List.mem_cons,List.not_mem_nil,or_false,forall_eq_or_imp,forall_eq,decide_eq_true_eq]at ho
 obtain⟨o1,o2,o3,o4,o5,o6⟩:=ho
 simp only[b8,AV.norm,bA,aF.norm,Con.size,List.cons.injEq,AV.c.injEq,AV.agg.injEq,aF.view.injEq,aL,true_and,and_true]at hnorm
 obtain⟨⟨rfl,rfl,rfl⟩,rfl,rfl,rfl⟩:=hnorm
 unfold rdX
 cases hr:rdB k w v with
 |true=>
  have hr':=hr
  simp only[rdB,Bool.and_eq_true,rpS]at hr'
  exact a6W _ _ _ _ _ (by simp only[b8,AV.norm,aF.norm,Con.size,aL]) rfl (by simp[o1,o2,o3,o4,o5,o6,hr'.1,hr'.2])
 |false=>
  exact bE.nilTup (h':=[]) (c0:=.ints .i64 []) (YL _ _ (.tup [.c .nils,.c (.bool false)]) [] _ (by simp only[b8,AV.norm,aF.norm,Con.size,aL]) rfl (by simp only[rdB]at hr;simp[o1,o2,o3,o4,o5,o6,hr])) rfl
noncomputable def T41:List aZ:=[⟨183,[],nm BW⟩]++T40
theorem e41:a7 Tryz.prog T41:=by
 refine a7.append ?_ e40
 intro e he
 simp only[List.mem_cons,List.not_mem_nil,or_false]at he
 subst he;exact YM.ok
theorem t41:bK Tryz.prog (a9 T41):=aO e41
noncomputable def I65 (k:Int) (a b:List Int) (c:List Bool) (v:List Int) (i:Int):St:=
 aR f65.ntmps [(1,.c (.ptr 0 0 0 0)),(10,.c (.sl 1 0 v.length 1 none)),(11,.c (.int .i64 v.length)),(12,.c (.int .i64 i))] [.live (.cells [.int .i64 k,.view none (.ints .i64 a) a.length 1 none,.view none (.ints .i64 b) b.length 1 none,.view none (.bools c) c.length 1 none]),.live (.ints .i64 v)]
noncomputable def Y65 (k:Int) (a b:List Int) (c:List Bool) (x:Int):St:=
 aR f65.ntmps [(2,.c (.sl 0 0 (rdX k a (ofL b c x)).length 1 none)),(3,.c (.int .i64 x)),(4,.c (.bool true))] [.live (.ints .i64 (rdX k a (ofL b c x)))]
noncomputable def X65:St:=aR f65.ntmps [] []
theorem ZW (k:Int) (a b:List Int) (c:List Bool) (v:List Int) (i:Int):aC 0 (a6 f65 0) (a8 f65 0) (aD tt (a9 T41) ([]) 0 100 (a5 0 (a0 f65)) (I65 k a b c v i) [(0,true),(0,true)])=
  some (.ret,(decide (i<(↑v.length:Int))&&(decide (0≤i)&&(decide (i<(↑v.length:Int))&&(decide (i.toNat<v.length)&&(decide (c.length≤274877906944)&&(decide (b.length=c.length)&&(decide ((ofL b c (v.getD i.toNat 0)).length=(ofL b c (v.getD i.toNat 0)).length)&&(decide ((ofL b c (v.getD i.toNat 0)).length≤8)&&(bet k 1 2&&(bC (ofL b c (v.getD i.toNat 0))&&(decide (a.length=8)&&(aA a&&(dO k a (ofL b c (v.getD i.toNat 0))&&((rdB k a (ofL b c (v.getD i.toNat 0)))&&true)))))))))))))),[],Y65 k a b c (v.getD i.toNat 0)):=by kernel_rfl
theorem ZX (k:Int) (a b:List Int) (c:List Bool) (v:List Int) (i:Int):aC 0 (a6 f65 0) (a8 f65 0) (aD tt (a9 T41) ([]) 0 100 (a5 0 (a0 f65)) (I65 k a b c v i) [(0,true),(0,false)])=
  some (.normal,(decide (i<(↑v.length:Int))&&(decide (0≤i)&&(decide (i<(↑v.length:Int))&&(decide (i.toNat<v.length)&&(decide (c.length≤274877906944)&&(decide (b.length=c.length)&&(decide ((ofL b c (v.getD i.toNat 0)).length=(ofL b c (v.getD i.toNat 0)).length)&&(decide ((ofL b c (v.getD i.toNat 0)).length≤8)&&(bet k 1 2&&(bC (ofL b c (v.getD i.toNat 0))&&(decide (a.length=8)&&(aA a&&(dO k a (ofL b c (v.getD i.toNat 0))&&((!rdB k a (ofL b c (v.getD i.toNat 0)))&&true)))))))))))))),[],I65 k a b c v (IntKind.i64.wrap (i+1))):=by kernel_rfl
theorem ZY (k:Int) (a b:List Int) (c:List Bool) (v:List Int) (i:Int):aC 0 (a6 f65 0) (a8 f65 0) (aD tt (a9 T41) ([]) 0 100 (a5 0 (a0 f65)) (I65 k a b c v i) [(0,false)])=
  some (.exit 0,((!decide (i<(↑v.length:Int)))&&true),[],X65):=by kernel_rfl
theorem wF (q:Int→Bool) (v:List Int): ∀(n i:Nat),i+n=v.length→cD (fun i (_:Unit)=>bif q (v.getD i 0)then .inr (v.getD i 0)else .inl ()) n i ()=match(v.drop i).find? q with|some x=> .inr x|none=> .inl ()
 |0,i,h=>by rw[List.drop_eq_nil_of_le (by omega)];rfl
 |n+1,i,h=>by
  have hi:i<v.length:=by omega
  rw[List.drop_eq_getElem_cons hi]
  have hg:v.getD i 0=v[i]:=by rw[List.getD_eq_getElem?_getD,List.getElem?_eq_getElem hi];rfl
  simp only[cD,List.find?_cons]
  rw[hg]
  cases hq:q v[i]with
  |true=>rfl
  |false=>simp only[cond_false];exact wF q v n (i+1) (by omega)
def rdV (k:Int) (a b:List Int) (c:List Bool):Option Int:=(bJ b c).find? fun x=>rdB k a (ofL b c x)
def okE:Option Int→Ex
 |some _=> .ret
 |none=> .normal
noncomputable def okS (k:Int) (a b:List Int) (c:List Bool):Option Int→St
 |some x=>Y65 k a b c x
 |none=>X65
theorem l65 (k:Int) (a b:List Int) (c:List Bool) (hk:bet k 1 2=true) (ha:a.length=8) (haf:aA a=true) (hb:b.length=8) (hc:c.length=8):
  aN none Tryz.prog 0 (.block 0 (.loop (a5 0 (a0 f65)))) (I65 k a b c (bJ b c) 0) fun e t=>e=okE (rdV k a b c)∧t=okS k a b c (rdV k a b c):=by
 have hv:=wM b c
 have key:=aN.countE (ro:=none) hT t41 bF (m:=0) (id:=0) (body:=a5 0 (a0 f65)) (bJ b c).length (fun _ _=>True) (fun i _=>I65 k a b c (bJ b c) i) (fun _=>X65) (fun x=>Y65 k a b c x) .ret (.inr rfl)
  (fun i (_:Unit)=>bif rdB k a (ofL b c ((bJ b c).getD i 0))then .inr ((bJ b c).getD i 0)else .inl ()) (a6 f65 0) (a8 f65 0) (fun _ _=>[]) (fun _ _ _ _=>aK.nil) (fun i _ hi _=> ?_)
  (fun _ _=>⟨_,_,⟨_,_,ZY k a b c (bJ b c) (bJ b c).length,by simp,by simp⟩⟩) () trivial
 ·refine aN.mono key fun e t h=> ?_
  rw[wF (fun x=>rdB k a (ofL b c x)) (bJ b c) _ 0 (by omega)]at h
  revert h
  show _→e=okE ((bJ b c).find? fun x=>rdB k a (ofL b c x))∧t=okS k a b c ((bJ b c).find? fun x=>rdB k a (ofL b c x))
  rw[List.drop_zero]
  cases (bJ b c).find? fun x=>rdB k a (ofL b c x)<;>exact fun h=>h
 ·have hs:=tN (b:=b) (vs:=(bJ b c).getD i 0) hc
  have ho:=AW (w:=a) (b:=b) (c:=c) (vs:=(bJ b c).getD i 0) hk hc
  cases hq:rdB k a (ofL b c ((bJ b c).getD i 0))with
  |true=>
   refine .inr ⟨_,rfl, ?_⟩
   have e:=ZW k a b c (bJ b c) i
   rw[Int.toNat_natCast]at e
   rw[if_neg (by intro h;cases h)]
   refine⟨_,_,⟨_,_,e, ?_,by simp⟩⟩
   simp only[hq,hk,hs.1,haf,ho,Bool.true_and,rpS,Bool.and_true,Bool.and_eq_true,decide_eq_true_eq,true_and,and_true]
   omega
  |false=>
   refine .inl ⟨(),rfl,trivial, ?_⟩
   have e:=ZX k a b c (bJ b c) i
   rw[aB (by omega) (by omega),Int.toNat_natCast]at e
   refine⟨_,_,⟨_,_,e, ?_,by simp⟩⟩
   simp only[hq,hk,hs.1,haf,ho,Bool.not_false,Bool.true_and,rpS,Bool.and_true,Bool.and_eq_true,decide_eq_true_eq,true_and,and_true]
   omega
theorem W6 (k:Int) (a b:List Int) (c:List Bool) (x:Int):aE tt (a9 T41) ([(0,⟨a6 f65 0,I65 k a b c (bJ b c) 0,.ret,Y65 k a b c x⟩)]) 100 f65 [.agg [.int .i64 k,.view none (.ints .i64 a) a.length 1 none,.view none (.ints .i64 b) b.length 1 none,.view none (.bools c) c.length 1 none]] [] []=
  some ⟨.tup [.c (.sl 0 0 (rdX k a (ofL b c x)).length 1 none),.c (.int .i64 x),.c (.bool true)],[.live (.ints .i64 (rdX k a (ofL b c x)))],(decide (c.length≤8)&&((decide (b.length=c.length))&&true)),[I65 k a b c (bJ b c) 0=I65 k a b c (bJ b c) 0]⟩:=by kernel_rfl
theorem W7 (k:Int) (a b:List Int) (c:List Bool):aE tt (a9 T41) ([(0,⟨a6 f65 0,I65 k a b c (bJ b c) 0,.normal,X65⟩)]) 100 f65 [.agg [.int .i64 k,.view none (.ints .i64 a) a.length 1 none,.view none (.ints .i64 b) b.length 1 none,.view none (.bools c) c.length 1 none]] [] []=
  some ⟨.tup [.c .nils,.c (.int .i64 0),.c (.bool false)],[],(decide (c.length≤8)&&((decide (b.length=c.length))&&true)),[I65 k a b c (bJ b c) 0=I65 k a b c (bJ b c) 0]⟩:=by kernel_rfl
def rdD (k:Int) (a b:List Int) (c:List Bool):List Int:=match rdV k a b c with|some x=>rdX k a (ofL b c x)|none=>[]
def rdN (k:Int) (a b:List Int) (c:List Bool):Int:=match rdV k a b c with|some x=>x|none=>0
def rdS (k:Int) (a b:List Int) (c:List Bool):Bool:=match rdV k a b c with|some _=>true|none=>false
def x9:aM:=fun args h=>
 match args,h with
 |[.agg [.int .i64 k,.view _ (.ints .i64 a) n1 1 _,.view _ (.ints .i64 b) n2 1 _,.view _ (.bools c) n3 1 _]],[]=>
  some (.tup [.c (.sl 0 0 (rdD k a b c).length 1 none),.c (.int .i64 (rdN k a b c)),.c (.bool (rdS k a b c))],[.live (.ints .i64 (rdD k a b c))],[decide (c.length=8),decide (b.length=8),decide (a.length=8),bet k 1 2,aA a])
 |_,_=>none
theorem m65:aS Tryz.prog 131 x9:=by
 intro args h res h' o hnorm he ho
 unfold x9 at he
 split at he
 case h_2=>cases he
 rename_i k nl1 a n1 cap1 nl2 b n2 cap2 nl3 c n3 cap3
 simp only[Option.some.injEq,Prod.mk.injEq]at he
 obtain⟨rfl,rfl,rfl⟩:=he
 simp only[List.mem_cons,List.not_mem_nil,or_false,forall_eq_or_imp,forall_eq,decide_eq_true_eq]at ho
 obtain⟨o1,o2,o3,o4,o5⟩:=ho
 simp only[b8,AV.norm,bA,aF.norm,Con.size,List.cons.injEq,AV.c.injEq,AV.agg.injEq,aF.view.injEq,aL,true_and,and_true]at hnorm
 obtain⟨⟨rfl,rfl,rfl⟩,⟨rfl,rfl,rfl⟩,rfl,rfl,rfl⟩:=hnorm
 have g:=l65 k a b c o4 o3 o5 o2 o1
 unfold rdD rdN rdS
 cases hr:rdV k a b c with
 |some x=>
  rw[hr]at g
  exact mo (fn:=f65) t41 (W6 k a b c x) (by simp[o1,o2]) (hlc:=(fun cc hcc=>aK.cons (c:=cc) (by cases hcc;kernel_rfl) (by cases hcc;exact g) aK.nil))
 |none=>
  rw[hr]at g
  exact bE.nilTup (h':=[]) (c0:=.ints .i64 []) (mo (fn:=f65) t41 (W7 k a b c) (by simp[o1,o2]) (hlc:=(fun cc hcc=>aK.cons (c:=cc) (by cases hcc;kernel_rfl) (by cases hcc;exact g) aK.nil))) rfl
noncomputable def T42:List aZ:=[⟨131,[],nm x9⟩]++T41
theorem e42:a7 Tryz.prog T42:=by
 refine a7.append ?_ e41
 intro e he
 simp only[List.mem_cons,List.not_mem_nil,or_false]at he
 subst he;exact m65.ok
theorem t42:bK Tryz.prog (a9 T42):=aO e42
theorem a2O (k:Int) (a b:List Int) (c:List Bool):aE tt (a9 T42) ([]) 100 Tryz.f174 [.agg [.int .i64 k,.view none (.ints .i64 a) a.length 1 none,.view none (.ints .i64 b) b.length 1 none,.view none (.bools c) c.length 1 none]] [] [(0,true)]=
  some ⟨.tup [.c .nils,.c (.int .i64 0),.c (.bool false)],[],((!bZ k a b c)&&true),[]⟩:=by kernel_rfl
theorem a2P (k:Int) (a b:List Int) (c:List Bool):aE tt (a9 T42) ([]) 100 Tryz.f174 [.agg [.int .i64 k,.view none (.ints .i64 a) a.length 1 none,.view none (.ints .i64 b) b.length 1 none,.view none (.bools c) c.length 1 none]] [] [(0,false)]=
  some ⟨.tup [.c (.sl 0 0 (rdD k a b c).length 1 none),.c (.int .i64 (rdN k a b c)),.c (.bool (rdS k a b c))],[.live (.ints .i64 (rdD k a b c))],(!!bZ k a b c&&(decide (c.length=8)&&(decide (b.length=8)&&(decide (a.length=8)&&(bet k 1 2&&((aA a)&&true)))))),[]⟩:=by kernel_rfl
end
section
theorem f6 {k:Int} {a b:List Int} {c:List Bool} (h:bZ k a b c=true):bet k 1 2=true∧a.length=8∧b.length=8∧c.length=8∧aA a=true:=by
 simp only[bZ,Bool.and_eq_true,rpS]at h
 obtain⟨h1,h2,h3,h4⟩:=h
 obtain⟨ha,hb,hc⟩:=f5.1 h2
 exact⟨h1,ha,hb,hc,AO ha h3⟩
def srD (k:Int) (a b:List Int) (c:List Bool):List Int:=bif bZ k a b c then rdD k a b c else []
def srN (k:Int) (a b:List Int) (c:List Bool):Int:=bif bZ k a b c then rdN k a b c else 0
def srS (k:Int) (a b:List Int) (c:List Bool):Bool:=bif bZ k a b c then rdS k a b c else false
def xD:aM:=fun args h=>
 match args,h with
 |[.agg [.int .i64 k,.view _ (.ints .i64 a) n1 1 _,.view _ (.ints .i64 b) n2 1 _,.view _ (.bools c) n3 1 _]],[]=>
  some (.tup [.c (.sl 0 0 (srD k a b c).length 1 none),.c (.int .i64 (srN k a b c)),.c (.bool (srS k a b c))],[.live (.ints .i64 (srD k a b c))],[])
 |_,_=>none
theorem m40:aS Tryz.prog 174 xD:=by
 intro args h res h' o hnorm he ho
 unfold xD at he
 split at he
 case h_2=>cases he
 rename_i k nl1 a n1 cap1 nl2 b n2 cap2 nl3 c n3 cap3
 simp only[Option.some.injEq,Prod.mk.injEq]at he
 obtain⟨rfl,rfl,rfl⟩:=he
 simp only[b8,AV.norm,bA,aF.norm,Con.size,List.cons.injEq,AV.c.injEq,AV.agg.injEq,aF.view.injEq,aL,true_and,and_true]at hnorm
 obtain⟨⟨rfl,rfl,rfl⟩,⟨rfl,rfl,rfl⟩,rfl,rfl,rfl⟩:=hnorm
 unfold srD srN srS
 cases hr:bZ k a b c with
 |true=>
  obtain⟨o1,o2,o3,o4,o5⟩:=f6 hr
  exact mo t42 (a2P k a b c) (by simp[hr,o1,o2,o3,o4,o5])
 |false=>
  exact bE.nilTup (h':=[]) (c0:=.ints .i64 []) (mo t42 (a2O k a b c) (by simp[hr])) rfl
noncomputable def T43:List aZ:=[⟨174,[],nm xD⟩]++T42
theorem e43:a7 Tryz.prog T43:=by
 refine a7.append ?_ e42
 intro e he
 simp only[List.mem_cons,List.not_mem_nil,or_false]at he
 subst he;exact m40.ok
theorem t43:bK Tryz.prog (a9 T43):=aO e43
noncomputable abbrev f22:=Tryz.f129
def iH (kd:Int) (d:List Int):List Int:=lC kd [ifI (aG d 4) (d.getD 0 0),ifI (aG d 4) (d.getD 1 0),ifI (aG d 4) (d.getD 2 0),ifI (aG d 4) (d.getD 3 0)]
noncomputable def I22 (k:Int) (a b:List Int) (c:List Bool) (on:Bool) (kd:Int) (d:List Int) (vs:Int) (ev:List Int) (i:Int):St:=
 aR f22.ntmps [(1,.c (.ptr 0 0 0 0)),(9,.c (.sl 1 0 8 1 none)),(96,.c (.view none (.ints .i64 b) b.length 1 none)),(97,.c (.int .i64 b.length)),(98,.c (.int .i64 i))] [.live (.cells [.int .i64 k,.view none (.ints .i64 a) a.length 1 none,.view none (.ints .i64 b) b.length 1 none,.view none (.bools c) c.length 1 none,.bool on,.int .i64 kd,.view none (.ints .i64 d) d.length 1 none,.int .i64 vs]),.live (.ints .i64 ev)]
noncomputable def X22:St:=aR f22.ntmps [] []
noncomputable def Y22:St:=aR f22.ntmps [(2,.c (.bool false))] []
theorem Z3 (k:Int) (a b:List Int) (c:List Bool) (on:Bool) (kd:Int) (d:List Int) (vs:Int) (ev:List Int) (i:Int):aC 0 (a6 f22 0) (a8 f22 0) (aD tt (a9 T43) ([]) 0 100 (a5 0 (a0 f22)) (I22 k a b c on kd d vs ev i) [(0,true),(0,true),(0,true),(0,true)])=
  some (.ret,(decide (i<(↑b.length:Int))&&(decide (0≤i)&&(decide (i<(↑b.length:Int))&&(decide (i.toNat<b.length)&&(rp5 (b.getD i.toNat 0==vs) (decide (0≤i)&&(decide (i<(↑c.length:Int))&&((b.getD i.toNat 0==vs)&&(decide (i.toNat<c.length)&&(rp2 (b.getD i.toNat 0==vs) (rp2 (!c.getD i.toNat false) (rp9 (!c.getD i.toNat false) ((b.getD i.toNat 0==vs)&&((!c.getD i.toNat false)&&((bif b.getD i.toNat 0==vs then true else false)&&true))))))))))))))),[],Y22):=by kernel_rfl
theorem Z4 (k:Int) (a b:List Int) (c:List Bool) (on:Bool) (kd:Int) (d:List Int) (vs:Int) (ev:List Int) (i:Int):aC 0 (a6 f22 0) (a8 f22 0) (aD tt (a9 T43) ([]) 0 100 (a5 0 (a0 f22)) (I22 k a b c on kd d vs ev i) [(0,true),(0,true),(0,false),(0,true)])=
  some (.ret,(decide (i<(↑b.length:Int))&&(decide (0≤i)&&(decide (i<(↑b.length:Int))&&(decide (i.toNat<b.length)&&(rp5 (b.getD i.toNat 0==vs) (decide (0≤i)&&(decide (i<(↑c.length:Int))&&((b.getD i.toNat 0==vs)&&(decide (i.toNat<c.length)&&(rp2 (b.getD i.toNat 0==vs) (rp5 (!!c.getD i.toNat false) (decide (0≤i)&&(decide (i<(↑a.length:Int))&&((!!c.getD i.toNat false)&&(decide (i.toNat<a.length)&&(rp3 (!!c.getD i.toNat false) (decide (0≤i)&&(decide (i<8)&&((!!c.getD i.toNat false)&&(decide (i.toNat<ev.length)&&((!!c.getD i.toNat false)&&((b.getD i.toNat 0==vs)&&((bif b.getD i.toNat 0==vs then bif !c.getD i.toNat false then true else a.getD i.toNat 0 !=ev.getD i.toNat 0 else false)&&true))))))))))))))))))))))),[],Y22):=by kernel_rfl
theorem Z5 (k:Int) (a b:List Int) (c:List Bool) (on:Bool) (kd:Int) (d:List Int) (vs:Int) (ev:List Int) (i:Int):aC 0 (a6 f22 0) (a8 f22 0) (aD tt (a9 T43) ([]) 0 100 (a5 0 (a0 f22)) (I22 k a b c on kd d vs ev i) [(0,true),(0,true),(0,false),(0,false)])=
  some (.normal,(decide (i<(↑b.length:Int))&&(decide (0≤i)&&(decide (i<(↑b.length:Int))&&(decide (i.toNat<b.length)&&(rp5 (b.getD i.toNat 0==vs) (decide (0≤i)&&(decide (i<(↑c.length:Int))&&((b.getD i.toNat 0==vs)&&(decide (i.toNat<c.length)&&(rp2 (b.getD i.toNat 0==vs) (rp5 (!!c.getD i.toNat false) (decide (0≤i)&&(decide (i<(↑a.length:Int))&&((!!c.getD i.toNat false)&&(decide (i.toNat<a.length)&&(rp3 (!!c.getD i.toNat false) (decide (0≤i)&&(decide (i<8)&&((!!c.getD i.toNat false)&&(decide (i.toNat<ev.length)&&((!!c.getD i.toNat false)&&((b.getD i.toNat 0==vs)&&((!bif b.getD i.toNat 0==vs then bif !c.getD i.toNat false then true else a.getD i.toNat 0 !=ev.getD i.toNat 0 else false)&&true))))))))))))))))))))))),[],I22 k a b c on kd d vs ev (IntKind.i64.wrap (i+1))):=by kernel_rfl
theorem Z6 (k:Int) (a b:List Int) (c:List Bool) (on:Bool) (kd:Int) (d:List Int) (vs:Int) (ev:List Int) (i:Int):aC 0 (a6 f22 0) (a8 f22 0) (aD tt (a9 T43) ([]) 0 100 (a5 0 (a0 f22)) (I22 k a b c on kd d vs ev i) [(0,true),(0,false)])=
  some (.normal,(decide (i<(↑b.length:Int))&&(decide (0≤i)&&(decide (i<(↑b.length:Int))&&(decide (i.toNat<b.length)&&((!b.getD i.toNat 0==vs)&&(rp9 (!b.getD i.toNat 0==vs) true)))))),[],I22 k a b c on kd d vs ev (IntKind.i64.wrap (i+1))):=by kernel_rfl
theorem Z7 (k:Int) (a b:List Int) (c:List Bool) (on:Bool) (kd:Int) (d:List Int) (vs:Int) (ev:List Int) (i:Int):aC 0 (a6 f22 0) (a8 f22 0) (aD tt (a9 T43) ([]) 0 100 (a5 0 (a0 f22)) (I22 k a b c on kd d vs ev i) [(0,false)])=
  some (.exit 0,((!decide (i<(↑b.length:Int)))&&true),[],X22):=by kernel_rfl
theorem VP (k:Int) (a b:List Int) (c:List Bool) (on:Bool) (kd:Int) (d:List Int) (vs:Int) (lcv:List (Nat×LC)):aE tt (a9 T43) (lcv) 100 f22 [.agg [.int .i64 k,.view none (.ints .i64 a) a.length 1 none,.view none (.ints .i64 b) b.length 1 none,.view none (.bools c) c.length 1 none,.bool on,.int .i64 kd,.view none (.ints .i64 d) d.length 1 none,.int .i64 vs]] [] [(0,true),(0,true),(0,true),(0,true),(0,true)]=
  some ⟨.c (.bool (bif bif bif bif srS k a b c then kd==0 else false then(↑d.length:Int)==0 else false then vs==0 else false then(↑(bJ b c).length:Int)==1 else false)),[],((!on)&&(rp3 (srS k a b c) (rp4 (bif srS k a b c then kd==0 else false) (rp3 (bif bif srS k a b c then kd==0 else false then(↑d.length:Int)==0 else false) (rp3 (bif bif bif srS k a b c then kd==0 else false then(↑d.length:Int)==0 else false then vs==0 else false) (decide (c.length≤8)&&(decide (b.length=c.length)&&(rp2 (bif bif bif srS k a b c then kd==0 else false then(↑d.length:Int)==0 else false then vs==0 else false) true)))))))),[]⟩:=by kernel_rfl
theorem VQ (k:Int) (a b:List Int) (c:List Bool) (on:Bool) (kd:Int) (d:List Int) (vs:Int) (lcv:List (Nat×LC)):aE tt (a9 T43) (lcv) 100 f22 [.agg [.int .i64 k,.view none (.ints .i64 a) a.length 1 none,.view none (.ints .i64 b) b.length 1 none,.view none (.bools c) c.length 1 none,.bool on,.int .i64 kd,.view none (.ints .i64 d) d.length 1 none,.int .i64 vs]] [] [(0,true),(0,true),(0,true),(0,true),(0,false)]=
  some ⟨.c (.bool false),[],((!on)&&(rp3 (srS k a b c) (rp4 (bif srS k a b c then kd==0 else false) (rp3 (bif bif srS k a b c then kd==0 else false then(↑d.length:Int)==0 else false) (rp6 (!bif bif bif srS k a b c then kd==0 else false then(↑d.length:Int)==0 else false then vs==0 else false) true))))),[]⟩:=by kernel_rfl
theorem VS (k:Int) (a b:List Int) (c:List Bool) (on:Bool) (kd:Int) (d:List Int) (vs:Int) (lcv:List (Nat×LC)):aE tt (a9 T43) (lcv) 100 f22 [.agg [.int .i64 k,.view none (.ints .i64 a) a.length 1 none,.view none (.ints .i64 b) b.length 1 none,.view none (.bools c) c.length 1 none,.bool on,.int .i64 kd,.view none (.ints .i64 d) d.length 1 none,.int .i64 vs]] [] [(0,true),(0,true),(0,true),(0,false)]=
  some ⟨.c (.bool false),[],((!on)&&(rp3 (srS k a b c) (rp4 (bif srS k a b c then kd==0 else false) (rp4 (!bif bif srS k a b c then kd==0 else false then(↑d.length:Int)==0 else false) true)))),[]⟩:=by kernel_rfl
theorem VT (k:Int) (a b:List Int) (c:List Bool) (on:Bool) (kd:Int) (d:List Int) (vs:Int) (lcv:List (Nat×LC)):aE tt (a9 T43) (lcv) 100 f22 [.agg [.int .i64 k,.view none (.ints .i64 a) a.length 1 none,.view none (.ints .i64 b) b.length 1 none,.view none (.bools c) c.length 1 none,.bool on,.int .i64 kd,.view none (.ints .i64 d) d.length 1 none,.int .i64 vs]] [] [(0,true),(0,true),(0,false)]=
  some ⟨.c (.bool false),[],((!on)&&(rp3 (srS k a b c) (rp5 (!bif srS k a b c then kd==0 else false) true))),[]⟩:=by kernel_rfl
theorem VU (k:Int) (a b:List Int) (c:List Bool) (on:Bool) (kd:Int) (d:List Int) (vs:Int) (lcv:List (Nat×LC)):aE tt (a9 T43) (lcv) 100 f22 [.agg [.int .i64 k,.view none (.ints .i64 a) a.length 1 none,.view none (.ints .i64 b) b.length 1 none,.view none (.bools c) c.length 1 none,.bool on,.int .i64 kd,.view none (.ints .i64 d) d.length 1 none,.int .i64 vs]] [] [(0,true),(0,false)]=
  some ⟨.c (.bool false),[],((!on)&&(rp3 (!srS k a b c) ((!srS k a b c)&&true))),[]⟩:=by kernel_rfl
theorem VV (k:Int) (a b:List Int) (c:List Bool) (on:Bool) (kd:Int) (d:List Int) (vs:Int) (lcv:List (Nat×LC)):aE tt (a9 T43) (lcv) 100 f22 [.agg [.int .i64 k,.view none (.ints .i64 a) a.length 1 none,.view none (.ints .i64 b) b.length 1 none,.view none (.bools c) c.length 1 none,.bool on,.int .i64 kd,.view none (.ints .i64 d) d.length 1 none,.int .i64 vs]] [] [(0,false),(0,true)]=
  some ⟨.c (.bool false),[],((!!on)&&(decide (d.length≤274877906944)&&(rp4 (!aG d 4) ((!aG d 4)&&true)))),[]⟩:=by kernel_rfl
theorem VW (k:Int) (a b:List Int) (c:List Bool) (on:Bool) (kd:Int) (d:List Int) (vs:Int) (lcv:List (Nat×LC)):aE tt (a9 T43) (lcv) 100 f22 [.agg [.int .i64 k,.view none (.ints .i64 a) a.length 1 none,.view none (.ints .i64 b) b.length 1 none,.view none (.bools c) c.length 1 none,.bool on,.int .i64 kd,.view none (.ints .i64 d) d.length 1 none,.int .i64 vs]] [] [(0,false),(0,false),(0,true)]=
  some ⟨.c (.bool false),[],((!!on)&&(decide (d.length≤274877906944)&&(rp4 (!!aG d 4) (rp5 (bif !aG d 4 then true else !bet kd 1 2) true)))),[]⟩:=by kernel_rfl
theorem VX (k:Int) (a b:List Int) (c:List Bool) (on:Bool) (kd:Int) (d:List Int) (vs:Int) (lcv:List (Nat×LC)):aE tt (a9 T43) (lcv) 100 f22 [.agg [.int .i64 k,.view none (.ints .i64 a) a.length 1 none,.view none (.ints .i64 b) b.length 1 none,.view none (.bools c) c.length 1 none,.bool on,.int .i64 kd,.view none (.ints .i64 d) d.length 1 none,.int .i64 vs]] [] [(0,false),(0,false),(0,false),(0,true)]=
  some ⟨.c (.bool false),[],((!!on)&&(decide (d.length≤274877906944)&&(rp4 (!!aG d 4) (rp4 (!bif !aG d 4 then true else !bet kd 1 2) (rp5 (bif bif !aG d 4 then true else !bet kd 1 2 then true else !bet vs 1 99) true))))),[]⟩:=by kernel_rfl
theorem VY (k:Int) (a b:List Int) (c:List Bool) (on:Bool) (kd:Int) (d:List Int) (vs:Int) (lcv:List (Nat×LC)):aE tt (a9 T43) (lcv) 100 f22 [.agg [.int .i64 k,.view none (.ints .i64 a) a.length 1 none,.view none (.ints .i64 b) b.length 1 none,.view none (.bools c) c.length 1 none,.bool on,.int .i64 kd,.view none (.ints .i64 d) d.length 1 none,.int .i64 vs]] [] [(0,false),(0,false),(0,false),(0,false),(0,true)]=
  some ⟨.c (.bool false),[],((!!on)&&(decide (d.length≤274877906944)&&(rp4 (!!aG d 4) (rp4 (!bif !aG d 4 then true else !bet kd 1 2) (rp4 (!bif bif !aG d 4 then true else !bet kd 1 2 then true else !bet vs 1 99) ((bif bif bif !aG d 4 then true else !bet kd 1 2 then true else !bet vs 1 99 then true else !cZ a b c)&&true)))))),[]⟩:=by kernel_rfl
theorem P3 (k:Int) (a b:List Int) (c:List Bool) (on:Bool) (kd:Int) (d:List Int) (vs:Int) (lcv:List (Nat×LC)):aE tt (a9 T43) (lcv) 100 f22 [.agg [.int .i64 k,.view none (.ints .i64 a) a.length 1 none,.view none (.ints .i64 b) b.length 1 none,.view none (.bools c) c.length 1 none,.bool on,.int .i64 kd,.view none (.ints .i64 d) d.length 1 none,.int .i64 vs]] [] [(0,false),(0,false),(0,false),(0,false),(0,false),(0,true)]=
  some ⟨.c (.bool false),[],((!!on)&&(decide (d.length≤274877906944)&&(rp4 (!!aG d 4) (rp4 (!bif !aG d 4 then true else !bet kd 1 2) (rp4 (!bif bif !aG d 4 then true else !bet kd 1 2 then true else !bet vs 1 99) ((!bif bif bif !aG d 4 then true else !bet kd 1 2 then true else !bet vs 1 99 then true else !cZ a b c)&&(decide (b.length≤274877906944)&&(decide (a.length=b.length)&&(decide (c.length=b.length)&&(decide (a.length=(aJ a b c vs).fst.length)&&(decide (b.length=(aJ a b c vs).2.1.length)&&(decide (c.length=(aJ a b c vs).2.2.length)&&(rp4 (!bZ k (aJ a b c vs).fst (aJ a b c vs).2.1 (aJ a b c vs).2.2) ((!bZ k (aJ a b c vs).fst (aJ a b c vs).2.1 (aJ a b c vs).2.2)&&true)))))))))))))),[]⟩:=by kernel_rfl
theorem P4 (k:Int) (a b:List Int) (c:List Bool) (on:Bool) (kd:Int) (d:List Int) (vs:Int) (lcv:List (Nat×LC)):aE tt (a9 T43) (lcv) 100 f22 [.agg [.int .i64 k,.view none (.ints .i64 a) a.length 1 none,.view none (.ints .i64 b) b.length 1 none,.view none (.bools c) c.length 1 none,.bool on,.int .i64 kd,.view none (.ints .i64 d) d.length 1 none,.int .i64 vs]] [] [(0,false),(0,false),(0,false),(0,false),(0,false),(0,false),(0,true)]=
  some ⟨.c (.bool false),[],((!!on)&&(decide (d.length≤274877906944)&&(rp4 (!!aG d 4) (rp4 (!bif !aG d 4 then true else !bet kd 1 2) (rp4 (!bif bif !aG d 4 then true else !bet kd 1 2 then true else !bet vs 1 99) ((!bif bif bif !aG d 4 then true else !bet kd 1 2 then true else !bet vs 1 99 then true else !cZ a b c)&&(decide (b.length≤274877906944)&&(decide (a.length=b.length)&&(decide (c.length=b.length)&&(decide (a.length=(aJ a b c vs).fst.length)&&(decide (b.length=(aJ a b c vs).2.1.length)&&(decide (c.length=(aJ a b c vs).2.2.length)&&(rp2 (!!bZ k (aJ a b c vs).fst (aJ a b c vs).2.1 (aJ a b c vs).2.2) (decide (a.length=(aJ a b c vs).fst.length)&&(decide (b.length=(aJ a b c vs).2.1.length)&&(decide (c.length=(aJ a b c vs).2.2.length)&&(decide ((aJ a b c vs).2.2.length≤8)&&(decide ((aJ a b c vs).2.1.length=(aJ a b c vs).2.2.length)&&(rp2 (!!bZ k (aJ a b c vs).fst (aJ a b c vs).2.1 (aJ a b c vs).2.2) (rp6 (bif !bZ k (aJ a b c vs).fst (aJ a b c vs).2.1 (aJ a b c vs).2.2 then true else decide ((↑(bJ (aJ a b c vs).2.1 (aJ a b c vs).2.2).length:Int)>1)) true)))))))))))))))))))),[]⟩:=by kernel_rfl
theorem P5 (k:Int) (a b:List Int) (c:List Bool) (on:Bool) (kd:Int) (d:List Int) (vs:Int) (lcv:List (Nat×LC)):aE tt (a9 T43) (lcv) 100 f22 [.agg [.int .i64 k,.view none (.ints .i64 a) a.length 1 none,.view none (.ints .i64 b) b.length 1 none,.view none (.bools c) c.length 1 none,.bool on,.int .i64 kd,.view none (.ints .i64 d) d.length 1 none,.int .i64 vs]] [] [(0,false),(0,false),(0,false),(0,false),(0,false),(0,false),(0,false),(0,true)]=
  some ⟨.c (.bool false),[],((!!on)&&(decide (d.length≤274877906944)&&(rp4 (!!aG d 4) (rp4 (!bif !aG d 4 then true else !bet kd 1 2) (rp4 (!bif bif !aG d 4 then true else !bet kd 1 2 then true else !bet vs 1 99) ((!bif bif bif !aG d 4 then true else !bet kd 1 2 then true else !bet vs 1 99 then true else !cZ a b c)&&(decide (b.length≤274877906944)&&(decide (a.length=b.length)&&(decide (c.length=b.length)&&(decide (a.length=(aJ a b c vs).fst.length)&&(decide (b.length=(aJ a b c vs).2.1.length)&&(decide (c.length=(aJ a b c vs).2.2.length)&&(rp2 (!!bZ k (aJ a b c vs).fst (aJ a b c vs).2.1 (aJ a b c vs).2.2) (decide (a.length=(aJ a b c vs).fst.length)&&(decide (b.length=(aJ a b c vs).2.1.length)&&(decide (c.length=(aJ a b c vs).2.2.length)&&(decide ((aJ a b c vs).2.2.length≤8)&&(decide ((aJ a b c vs).2.1.length=(aJ a b c vs).2.2.length)&&(rp2 (!!bZ k (aJ a b c vs).fst (aJ a b c vs).2.1 (aJ a b c vs).2.2) (rp2 (!bif !bZ k (aJ a b c vs).fst (aJ a b c vs).2.1 (aJ a b c vs).2.2 then true else decide ((↑(bJ (aJ a b c vs).2.1 (aJ a b c vs).2.2).length:Int)>1)) (decide (a.length=(aJ a b c vs).fst.length)&&(decide (b.length=(aJ a b c vs).2.1.length)&&(decide (c.length=(aJ a b c vs).2.2.length)&&(decide ((aJ a b c vs).2.2.length≤8)&&(decide ((aJ a b c vs).2.1.length=(aJ a b c vs).2.2.length)&&(rp3 (!bif !bZ k (aJ a b c vs).fst (aJ a b c vs).2.1 (aJ a b c vs).2.2 then true else decide ((↑(bJ (aJ a b c vs).2.1 (aJ a b c vs).2.2).length:Int)>1)) ((bif bif !bZ k (aJ a b c vs).fst (aJ a b c vs).2.1 (aJ a b c vs).2.2 then true else decide ((↑(bJ (aJ a b c vs).2.1 (aJ a b c vs).2.2).length:Int)>1)then true else decide (i9 (aJ a b c vs).2.1 (aJ a b c vs).2.2≥vs))&&true))))))))))))))))))))))))))),[]⟩:=by kernel_rfl
theorem P6 (k:Int) (a b:List Int) (c:List Bool) (on:Bool) (kd:Int) (d:List Int) (vs:Int):aE tt (a9 T43) ([(0,⟨a6 f22 0,I22 k a b c on kd d vs (iH kd d) 0,.normal,X22⟩)]) 100 f22 [.agg [.int .i64 k,.view none (.ints .i64 a) a.length 1 none,.view none (.ints .i64 b) b.length 1 none,.view none (.bools c) c.length 1 none,.bool on,.int .i64 kd,.view none (.ints .i64 d) d.length 1 none,.int .i64 vs]] [] [(0,false),(0,false),(0,false),(0,false),(0,false),(0,false),(0,false),(0,false)]=
  some ⟨.c (.bool true),[],((!!on)&&(decide (d.length≤274877906944)&&(rp4 (!!aG d 4) (rp4 (!bif !aG d 4 then true else !bet kd 1 2) (rp4 (!bif bif !aG d 4 then true else !bet kd 1 2 then true else !bet vs 1 99) ((!bif bif bif !aG d 4 then true else !bet kd 1 2 then true else !bet vs 1 99 then true else !cZ a b c)&&(decide (b.length≤274877906944)&&(decide (a.length=b.length)&&(decide (c.length=b.length)&&(decide (a.length=(aJ a b c vs).fst.length)&&(decide (b.length=(aJ a b c vs).2.1.length)&&(decide (c.length=(aJ a b c vs).2.2.length)&&(rp2 (!!bZ k (aJ a b c vs).fst (aJ a b c vs).2.1 (aJ a b c vs).2.2) (decide (a.length=(aJ a b c vs).fst.length)&&(decide (b.length=(aJ a b c vs).2.1.length)&&(decide (c.length=(aJ a b c vs).2.2.length)&&(decide ((aJ a b c vs).2.2.length≤8)&&(decide ((aJ a b c vs).2.1.length=(aJ a b c vs).2.2.length)&&(rp2 (!!bZ k (aJ a b c vs).fst (aJ a b c vs).2.1 (aJ a b c vs).2.2) (rp2 (!bif !bZ k (aJ a b c vs).fst (aJ a b c vs).2.1 (aJ a b c vs).2.2 then true else decide ((↑(bJ (aJ a b c vs).2.1 (aJ a b c vs).2.2).length:Int)>1)) (decide (a.length=(aJ a b c vs).fst.length)&&(decide (b.length=(aJ a b c vs).2.1.length)&&(decide (c.length=(aJ a b c vs).2.2.length)&&(decide ((aJ a b c vs).2.2.length≤8)&&(decide ((aJ a b c vs).2.1.length=(aJ a b c vs).2.2.length)&&(rp3 (!bif !bZ k (aJ a b c vs).fst (aJ a b c vs).2.1 (aJ a b c vs).2.2 then true else decide ((↑(bJ (aJ a b c vs).2.1 (aJ a b c vs).2.2).length:Int)>1)) ((!bif bif !bZ k (aJ a b c vs).fst (aJ a b c vs).2.1 (aJ a b c vs).2.2 then true else decide ((↑(bJ (aJ a b c vs).2.1 (aJ a b c vs).2.2).length:Int)>1)then true else decide (i9 (aJ a b c vs).2.1 (aJ a b c vs).2.2≥vs))&&(bet kd 1 2&&(fok (ifI (aG d 4) (d.getD 0 0))&&(fok (ifI (aG d 4) (d.getD 1 0))&&(fok (ifI (aG d 4) (d.getD 2 0))&&((fok (ifI (aG d 4) (d.getD 3 0)))&&true)))))))))))))))))))))))))))))))),[I22 k a b c on kd d vs (iH kd d) 0=I22 k a b c on kd d vs (iH kd d) 0]⟩:=by kernel_rfl
theorem P7 (k:Int) (a b:List Int) (c:List Bool) (on:Bool) (kd:Int) (d:List Int) (vs:Int):aE tt (a9 T43) ([(0,⟨a6 f22 0,I22 k a b c on kd d vs (iH kd d) 0,.ret,Y22⟩)]) 100 f22 [.agg [.int .i64 k,.view none (.ints .i64 a) a.length 1 none,.view none (.ints .i64 b) b.length 1 none,.view none (.bools c) c.length 1 none,.bool on,.int .i64 kd,.view none (.ints .i64 d) d.length 1 none,.int .i64 vs]] [] [(0,false),(0,false),(0,false),(0,false),(0,false),(0,false),(0,false),(0,false)]=
  some ⟨.c (.bool false),[],((!!on)&&(decide (d.length≤274877906944)&&(rp4 (!!aG d 4) (rp4 (!bif !aG d 4 then true else !bet kd 1 2) (rp4 (!bif bif !aG d 4 then true else !bet kd 1 2 then true else !bet vs 1 99) ((!bif bif bif !aG d 4 then true else !bet kd 1 2 then true else !bet vs 1 99 then true else !cZ a b c)&&(decide (b.length≤274877906944)&&(decide (a.length=b.length)&&(decide (c.length=b.length)&&(decide (a.length=(aJ a b c vs).fst.length)&&(decide (b.length=(aJ a b c vs).2.1.length)&&(decide (c.length=(aJ a b c vs).2.2.length)&&(rp2 (!!bZ k (aJ a b c vs).fst (aJ a b c vs).2.1 (aJ a b c vs).2.2) (decide (a.length=(aJ a b c vs).fst.length)&&(decide (b.length=(aJ a b c vs).2.1.length)&&(decide (c.length=(aJ a b c vs).2.2.length)&&(decide ((aJ a b c vs).2.2.length≤8)&&(decide ((aJ a b c vs).2.1.length=(aJ a b c vs).2.2.length)&&(rp2 (!!bZ k (aJ a b c vs).fst (aJ a b c vs).2.1 (aJ a b c vs).2.2) (rp2 (!bif !bZ k (aJ a b c vs).fst (aJ a b c vs).2.1 (aJ a b c vs).2.2 then true else decide ((↑(bJ (aJ a b c vs).2.1 (aJ a b c vs).2.2).length:Int)>1)) (decide (a.length=(aJ a b c vs).fst.length)&&(decide (b.length=(aJ a b c vs).2.1.length)&&(decide (c.length=(aJ a b c vs).2.2.length)&&(decide ((aJ a b c vs).2.2.length≤8)&&(decide ((aJ a b c vs).2.1.length=(aJ a b c vs).2.2.length)&&(rp3 (!bif !bZ k (aJ a b c vs).fst (aJ a b c vs).2.1 (aJ a b c vs).2.2 then true else decide ((↑(bJ (aJ a b c vs).2.1 (aJ a b c vs).2.2).length:Int)>1)) ((!bif bif !bZ k (aJ a b c vs).fst (aJ a b c vs).2.1 (aJ a b c vs).2.2 then true else decide ((↑(bJ (aJ a b c vs).2.1 (aJ a b c vs).2.2).length:Int)>1)then true else decide (i9 (aJ a b c vs).2.1 (aJ a b c vs).2.2≥vs))&&(bet kd 1 2&&(fok (ifI (aG d 4) (d.getD 0 0))&&(fok (ifI (aG d 4) (d.getD 1 0))&&(fok (ifI (aG d 4) (d.getD 2 0))&&((fok (ifI (aG d 4) (d.getD 3 0)))&&true)))))))))))))))))))))))))))))))),[I22 k a b c on kd d vs (iH kd d) 0=I22 k a b c on kd d vs (iH kd d) 0]⟩:=by kernel_rfl
def jT (a b:List Int) (c:List Bool) (vs:Int) (ev:List Int) (i:Nat):Bool:=bif b.getD i 0==vs then c.getD i false&& !(a.getD i 0 !=ev.getD i 0)else true
theorem l22 (k:Int) (a b:List Int) (c:List Bool) (on:Bool) (kd:Int) (d:List Int) (vs:Int) (ev:List Int) (ha:a.length=8) (hb:b.length=8) (hc:c.length=8) (he:ev.length=8):
  aN none Tryz.prog 0 (.block 0 (.loop (a5 0 (a0 f22)))) (I22 k a b c on kd d vs ev 0) fun e t=>e=(bif cH (jT a b c vs ev) 8 0 then .normal else .ret)∧t=bif cH (jT a b c vs ev) 8 0 then X22 else Y22:=by
 refine aN.all (ro:=none) hT t43 bF 8 (jT a b c vs ev) (fun i=>I22 k a b c on kd d vs ev i) X22 Y22 .ret (.inr rfl) (a6 f22 0) (a8 f22 0) (fun _=>[]) (fun _ _=>aK.nil) (fun i hi h=> ?_) (fun i hi h=> ?_)
  ⟨_,_,⟨_,_,Z7 k a b c on kd d vs ev (8:Nat),by rw[hb];rfl,by simp⟩⟩
 ·unfold jT at h
  cases h1:b.getD i 0==vs with
  |true=>
   rw[h1,cond_true,Bool.and_eq_true,Bool.not_eq_true']at h
   obtain⟨h2,h3⟩:=h
   have e:=Z5 k a b c on kd d vs ev i
   rw[aB (by omega) (by omega),Int.toNat_natCast]at e
   refine⟨_,_,⟨_,_,e, ?_,by simp⟩⟩
   simp only[h1,h2,h3,bS,rpS]
   omega
  |false=>
   have e:=Z6 k a b c on kd d vs ev i
   rw[aB (by omega) (by omega),Int.toNat_natCast]at e
   refine⟨_,_,⟨_,_,e, ?_,by simp⟩⟩
   simp only[h1,bS,rpS]
   omega
 ·unfold jT at h
  rw[if_neg (by intro h;cases h)]
  cases h1:b.getD i 0==vs with
  |false=>rw[h1]at h;cases h
  |true=>
   rw[h1,cond_true]at h
   cases h2:c.getD i false with
   |false=>
    have e:=Z3 k a b c on kd d vs ev i
    rw[Int.toNat_natCast]at e
    refine⟨_,_,⟨_,_,e, ?_,by simp⟩⟩
    simp only[h1,h2,bS,rpS]
    omega
   |true=>
    rw[h2,Bool.true_and,Bool.not_eq_false']at h
    have e:=Z4 k a b c on kd d vs ev i
    rw[Int.toNat_natCast]at e
    refine⟨_,_,⟨_,_,e, ?_,by simp⟩⟩
    simp only[h1,h2,h,bS,rpS]
    omega
theorem oL {v:List Int} {n:Int} (h:aG v n=true) (i:Nat):fok (v.getD i 0)=true:=by
 simp only[aG,Bool.and_eq_true,rpS]at h
 exact aT h.1 i
def rsA (a b:List Int) (c:List Bool) (vs:Int):List Int:=(aJ a b c vs).1
def rsB (a b:List Int) (c:List Bool) (vs:Int):List Int:=(aJ a b c vs).2.1
def rsC (a b:List Int) (c:List Bool) (vs:Int):List Bool:=(aJ a b c vs).2.2
def oS (k:Int) (a b:List Int) (c:List Bool) (kd:Int) (d:List Int) (vs:Int):Bool:=srS k a b c&&((kd==0)&&(((d.length:Int)==0)&&((vs==0)&&(((bJ b c).length:Int)==1))))
def tC (k:Int) (a b:List Int) (c:List Bool) (kd:Int) (d:List Int) (vs:Int):Bool:=
 aG d 4&&(bet kd 1 2&&(bet vs 1 99&&(cZ a b c&&(bZ k (rsA a b c vs) (rsB a b c vs) (rsC a b c vs)&&(!decide (((bJ (rsB a b c vs) (rsC a b c vs)).length:Int)>1)&&
  (!decide (i9 (rsB a b c vs) (rsC a b c vs)≥vs)&&cH (jT a b c vs (iH kd d)) 8 0))))))
def bB (k:Int) (a b:List Int) (c:List Bool) (on:Bool) (kd:Int) (d:List Int) (vs:Int):Bool:=bif on then tC k a b c kd d vs else oS k a b c kd d vs
theorem KL (a b:List Int) (c:List Bool) (vs:Int):(rsA a b c vs).length=a.length∧(rsB a b c vs).length=b.length∧(rsC a b c vs).length=c.length:=
 aY (step:=qD vs) (fun _ s=>s.1.length=a.length∧s.2.1.length=b.length∧s.2.2.length=c.length) b.length (a,b,c) ⟨rfl,rfl,rfl⟩ fun i s _ h=>by
  unfold qD
  cases s.2.1.getD i 0==vs
  ·exact h
  ·simp[h.1,h.2.1,h.2.2]
def GT:aM:=fun args h=>
 match args,h with
 |[.agg [.int .i64 k,.view _ (.ints .i64 a) n1 1 _,.view _ (.ints .i64 b) n2 1 _,.view _ (.bools c) n3 1 _,.bool on,.int .i64 kd,.view _ (.ints .i64 d) n4 1 _,.int .i64 vs]],[]=>
  some (.c (.bool (bB k a b c on kd d vs)),[],[decide (d.length≤274877906944)])
 |_,_=>none
theorem m22:aS Tryz.prog 129 GT:=by
 intro args h res h' o hnorm he ho
 unfold GT at he
 split at he
 case h_2=>cases he
 rename_i k nl1 a n1 cap1 nl2 b n2 cap2 nl3 c n3 cap3 on kd nl4 d n4 cap4 vs
 simp only[Option.some.injEq,Prod.mk.injEq]at he
 obtain⟨rfl,rfl,rfl⟩:=he
 simp only[List.mem_cons,List.not_mem_nil,or_false,forall_eq_or_imp,forall_eq,decide_eq_true_eq]at ho
 have o1:=ho
 simp only[b8,AV.norm,bA,aF.norm,Con.size,List.cons.injEq,AV.c.injEq,AV.agg.injEq,aF.view.injEq,aL,true_and,and_true]at hnorm
 obtain⟨⟨rfl,rfl,rfl⟩,⟨rfl,rfl,rfl⟩,⟨rfl,rfl,rfl⟩,rfl,rfl,rfl⟩:=hnorm
 have st: ∀(x:Bool) (p:gC) (ob:Bool),(∀lcv,aE tt (a9 T43) lcv 100 f22 [.agg [.int .i64 k,.view none (.ints .i64 a) a.length 1 none,.view none (.ints .i64 b) b.length 1 none,.view none (.bools c) c.length 1 none,.bool on,.int .i64 kd,.view none (.ints .i64 d) d.length 1 none,.int .i64 vs]] [] p=some ⟨.c (.bool x),[],ob,[]⟩)→ob=true→bE Tryz.prog 129 [.agg [.int .i64 k,.view none (.ints .i64 a) a.length 1 none,.view none (.ints .i64 b) b.length 1 none,.view none (.bools c) c.length 1 none,.bool on,.int .i64 kd,.view none (.ints .i64 d) d.length 1 none,.int .i64 vs]] [] (.c (.bool x)) []:=
  fun x p ob h1 h2=>mo t43 (h1 []) h2
 cases on with
 |false=>
  show bE _ _ _ _ (.c (.bool (oS k a b c kd d vs))) _
  unfold oS
  cases h1:srS k a b c with
  |false=>exact st _ _ _ (VU k a b c false kd d vs) (by simp only[h1];rfl)
  |true=>
   obtain⟨q1,q2,q3,q4,q5⟩:=f6 (k:=k) (a:=a) (b:=b) (c:=c) (by
    unfold srS at h1
    cases h:bZ k a b c with
    |true=>rfl
    |false=>rw[h]at h1;cases h1)
   cases h2:kd==0 with
   |false=>exact st _ _ _ (VT k a b c false kd d vs) (by simp only[h1,h2];rfl)
   |true=>
    cases h3:(d.length:Int)==0 with
    |false=>exact st _ _ _ (VS k a b c false kd d vs) (by simp only[h1,h2,h3];rfl)
    |true=>
     cases h4:vs==0 with
     |false=>exact st _ _ _ (VQ k a b c false kd d vs) (by simp only[h1,h2,h3,h4];rfl)
     |true=>
      have e:=VP k a b c false kd d vs
      simp only[h1,h2,h3,h4,cond_true]at e
      exact st _ _ _ e (by simp only[q2,q3,q4,bS,rpS];omega)
 |true=>
  show bE _ _ _ _ (.c (.bool (tC k a b c kd d vs))) _
  unfold tC
  obtain⟨z1,z2,z3⟩:=KL a b c vs
  dsimp only[rsA,rsB,rsC]at z1 z2 z3
  cases h1:aG d 4 with
  |false=>exact st _ _ _ (VV k a b c true kd d vs) (by simp only[h1,bS,rpS];exact o1)
  |true=>
   cases h2:bet kd 1 2 with
   |false=>exact st _ _ _ (VW k a b c true kd d vs) (by simp only[h1,h2,bS,rpS];exact o1)
   |true=>
    cases h3:bet vs 1 99 with
    |false=>exact st _ _ _ (VX k a b c true kd d vs) (by simp only[h1,h2,h3,bS,rpS];exact o1)
    |true=>
     cases h4:cZ a b c with
     |false=>exact st _ _ _ (VY k a b c true kd d vs) (by simp only[h1,h2,h3,h4,bS,rpS];exact o1)
     |true=>
      obtain⟨ha,hb,hc⟩:=f5.1 h4
      cases h5:bZ k (rsA a b c vs) (rsB a b c vs) (rsC a b c vs)with
      |false=>exact st _ _ _ (P3 k a b c true kd d vs) (by
        have h5:bZ k (aJ a b c vs).1 (aJ a b c vs).2.1 (aJ a b c vs).2.2=false:=h5
        simp only[h1,h2,h3,h4,h5,bS,rpS];omega)
      |true=>
       cases h6:decide (((bJ (rsB a b c vs) (rsC a b c vs)).length:Int)>1)with
       |true=>exact st _ _ _ (P4 k a b c true kd d vs) (by
         have h5:bZ k (aJ a b c vs).1 (aJ a b c vs).2.1 (aJ a b c vs).2.2=true:=h5
         have h6:decide (((bJ (aJ a b c vs).2.1 (aJ a b c vs).2.2).length:Int)>1)=true:=h6
         simp only[h1,h2,h3,h4,h5,h6,bS,rpS];omega)
       |false=>
        cases h7:decide (i9 (rsB a b c vs) (rsC a b c vs)≥vs)with
        |true=>exact st _ _ _ (P5 k a b c true kd d vs) (by
         have h5:bZ k (aJ a b c vs).1 (aJ a b c vs).2.1 (aJ a b c vs).2.2=true:=h5
         have h6:decide (((bJ (aJ a b c vs).2.1 (aJ a b c vs).2.2).length:Int)>1)=false:=h6
         have h7:decide (i9 (aJ a b c vs).2.1 (aJ a b c vs).2.2≥vs)=true:=h7
         simp only[h1,h2,h3,h4,h5,h6,h7,bS,rpS];omega)
        |false=>
         have g:=l22 k a b c true kd d vs (iH kd d) ha hb hc rfl
         have hf:=oL h1
         cases h8:cH (jT a b c vs (iH kd d)) 8 0 with
         |true=>
          rw[h8]at g
          exact mo t43 (P6 k a b c true kd d vs) (by
           have h5:bZ k (aJ a b c vs).1 (aJ a b c vs).2.1 (aJ a b c vs).2.2=true:=h5
           have h6:decide (((bJ (aJ a b c vs).2.1 (aJ a b c vs).2.2).length:Int)>1)=false:=h6
           have h7:decide (i9 (aJ a b c vs).2.1 (aJ a b c vs).2.2≥vs)=false:=h7
           simp only[h1,h2,h3,h4,h5,h6,h7,ifI,hf,bS,rpS];omega) (hlc:=(fun cc hcc=>aK.cons (c:=cc) (by cases hcc;kernel_rfl) (by cases hcc;exact g) aK.nil))
         |false=>
          rw[h8]at g
          exact mo t43 (P7 k a b c true kd d vs) (by
           have h5:bZ k (aJ a b c vs).1 (aJ a b c vs).2.1 (aJ a b c vs).2.2=true:=h5
           have h6:decide (((bJ (aJ a b c vs).2.1 (aJ a b c vs).2.2).length:Int)>1)=false:=h6
           have h7:decide (i9 (aJ a b c vs).2.1 (aJ a b c vs).2.2≥vs)=false:=h7
           simp only[h1,h2,h3,h4,h5,h6,h7,ifI,hf,bS,rpS];omega) (hlc:=(fun cc hcc=>aK.cons (c:=cc) (by cases hcc;kernel_rfl) (by cases hcc;exact g) aK.nil))
end
section
noncomputable def T44:List aZ:=[⟨129,[],nm GT⟩]++T43
theorem e44:a7 Tryz.prog T44:=by
 refine a7.append ?_ e43
 intro e he
 simp only[List.mem_cons,List.not_mem_nil,or_false]at he
 subst he;exact m22.ok
theorem t44:bK Tryz.prog (a9 T44):=aO e44
def PK.cells (x:PK):List aF:=[.int .i64 x.k,.sl 0 0 x.a.length 1 none,.sl 1 0 x.b.length 1 none,.sl 2 0 x.c.length 1 none,.bool x.on,.int .i64 x.kd,.sl 3 0 x.d.length 1 none,.int .i64 x.vs]
def PK.heap (x:PK):List aU:=[.live (.ints .i64 x.a),.live (.ints .i64 x.b),.live (.bools x.c),.live (.ints .i64 x.d)]
def PK.ok (x:PK):Bool:=bB x.k x.a x.b x.c x.on x.kd x.d x.vs
theorem wN {P:Program} {f:FuncId} {args:List AV} {h:List aU} (hm:bE P f args [] (.agg [.int .i64 0,.nils,.nils,.nils,.bool false,.int .i64 0,.nils,.int .i64 0]) []):bE P f args [] (.agg PK0.cells) PK0.heap:=
 (((hm.nil1 (es:=1) (c0:=.ints .i64 []) rfl rfl).nil1 (es:=1) (c0:=.ints .i64 []) rfl rfl).nil1 (es:=1) (c0:=.bools []) rfl rfl).nil1 (es:=1) (c0:=.ints .i64 []) rfl rfl
theorem iR {P:Program} {f:FuncId} {args:List AV} {b:Bool} (hm:bE P f args [] (.tup [.agg [.int .i64 0,.nils,.nils,.nils,.bool false,.int .i64 0,.nils,.int .i64 0],.c (.bool b)]) []):bE P f args [] (.tup [.agg PK0.cells,.c (.bool b)]) PK0.heap:=
 (((hm.nil1 (es:=1) (c0:=.ints .i64 []) rfl rfl).nil1 (es:=1) (c0:=.ints .i64 []) rfl rfl).nil1 (es:=1) (c0:=.bools []) rfl rfl).nil1 (es:=1) (c0:=.ints .i64 []) rfl rfl
theorem dT {k:Int} {a b:List Int} {c:List Bool} {on:Bool} {kd:Int} {d:List Int} {vs:Int} (h:bB k a b c on kd d vs=true):a.length=8∧b.length=8∧c.length=8:=by
 unfold bB at h
 cases on with
 |true=>
  simp only[cond_true,tC,Bool.and_eq_true,rpS]at h
  exact f5.1 h.2.2.2.1
 |false=>
  simp only[cond_false,oS,Bool.and_eq_true,rpS]at h
  have h1:=h.1
  unfold srS at h1
  cases hs:bZ k a b c with
  |true=>exact⟨(f6 hs).2.1,(f6 hs).2.2.1,(f6 hs).2.2.2.1⟩
  |false=>rw[hs]at h1;cases h1
theorem EA {k:Int} {a b:List Int} {c:List Bool} {on:Bool} {kd:Int} {d:List Int} {vs:Int} (h:bB k a b c on kd d vs=true) (ho:on=false):bZ k a b c=true∧d=[]∧kd=0∧vs=0:=by
 subst ho
 simp only[bB,cond_false,oS,Bool.and_eq_true,rpS,beq_iff_eq]at h
 obtain⟨h1,h2,h3,h4,h5⟩:=h
 unfold srS at h1
 refine⟨?_,List.eq_nil_of_length_eq_zero (by omega),h2,h4⟩
 cases hs:bZ k a b c with
 |true=>rfl
 |false=>rw[hs]at h1;cases h1
theorem D1 {k:Int} {a b:List Int} {c:List Bool} {on:Bool} {kd:Int} {d:List Int} {vs:Int} (h:bB k a b c on kd d vs=true) (ho:on=true):aG d 4=true∧bet kd 1 2=true∧bet vs 1 99=true:=by
 subst ho
 simp only[bB,cond_true,tC,Bool.and_eq_true,rpS]at h
 exact⟨h.1,h.2.1,h.2.2.1⟩
def krD (k:Int) (a b:List Int) (c:List Bool) (on:Bool) (kd:Int) (d:List Int) (vs:Int):List Int:=bif bB k a b c on kd d vs then(bif on then d else rdD k a b c)else []
def krB (k:Int) (a b:List Int) (c:List Bool) (on:Bool) (kd:Int) (d:List Int) (vs:Int):Bool:=bif bB k a b c on kd d vs then(bif on then true else rdS k a b c)else false
theorem a25 (k:Int) (a b:List Int) (c:List Bool) (on:Bool) (kd:Int) (d:List Int) (vs:Int):aE tt (a9 T44) ([]) 100 Tryz.f118 [.agg [.int .i64 k,.view none (.ints .i64 a) a.length 1 none,.view none (.ints .i64 b) b.length 1 none,.view none (.bools c) c.length 1 none,.bool on,.int .i64 kd,.view none (.ints .i64 d) d.length 1 none,.int .i64 vs]] [] [(0,true)]=
  some ⟨.tup [.c .nils,.c (.bool false)],[],(decide (d.length≤274877906944)&&((!bB k a b c on kd d vs)&&true)),[]⟩:=by kernel_rfl
theorem a26 (k:Int) (a b:List Int) (c:List Bool) (on:Bool) (kd:Int) (d:List Int) (vs:Int):aE tt (a9 T44) ([]) 100 Tryz.f118 [.agg [.int .i64 k,.view none (.ints .i64 a) a.length 1 none,.view none (.ints .i64 b) b.length 1 none,.view none (.bools c) c.length 1 none,.bool on,.int .i64 kd,.view none (.ints .i64 d) d.length 1 none,.int .i64 vs]] [] [(0,false),(0,true)]=
  some ⟨.tup [.c (.sl 0 0 (↑d.length:Int).toNat 1 none),.c (.bool true)],[.live (.ints .i64 d)],(decide (d.length≤274877906944)&&(!!bB k a b c on kd d vs&&((on)&&(decide (d.length≤274877906944)&&((rp2 (decide ((↑d.length:Int)≤(↑d.length:Int))) true)&&true))))),[]⟩:=by kernel_rfl
theorem a27 (k:Int) (a b:List Int) (c:List Bool) (on:Bool) (kd:Int) (d:List Int) (vs:Int):aE tt (a9 T44) ([]) 100 Tryz.f118 [.agg [.int .i64 k,.view none (.ints .i64 a) a.length 1 none,.view none (.ints .i64 b) b.length 1 none,.view none (.bools c) c.length 1 none,.bool on,.int .i64 kd,.view none (.ints .i64 d) d.length 1 none,.int .i64 vs]] [] [(0,false),(0,false)]=
  some ⟨.tup [.c (.sl 0 0 (rdD k a b c).length 1 none),.c (.bool (rdS k a b c))],[.live (.ints .i64 (rdD k a b c))],(decide (d.length≤274877906944)&&(!!bB k a b c on kd d vs&&((!on)&&(decide (c.length=8)&&(decide (b.length=8)&&(decide (a.length=8)&&(bet k 1 2&&((aA a)&&true)))))))),[]⟩:=by kernel_rfl
def qW:aM:=fun args h=>
 match args,h with
 |[.agg [.int .i64 k,.view _ (.ints .i64 a) n1 1 _,.view _ (.ints .i64 b) n2 1 _,.view _ (.bools c) n3 1 _,.bool on,.int .i64 kd,.view _ (.ints .i64 d) n4 1 _,.int .i64 vs]],[]=>
  some (.tup [.c (.sl 0 0 (krD k a b c on kd d vs).length 1 none),.c (.bool (krB k a b c on kd d vs))],[.live (.ints .i64 (krD k a b c on kd d vs))],[decide (d.length≤274877906944)])
 |_,_=>none
theorem m20:aS Tryz.prog 118 qW:=by
 intro args h res h' o hnorm he ho
 unfold qW at he
 split at he
 case h_2=>cases he
 rename_i k nl1 a n1 cap1 nl2 b n2 cap2 nl3 c n3 cap3 on kd nl4 d n4 cap4 vs
 simp only[Option.some.injEq,Prod.mk.injEq]at he
 obtain⟨rfl,rfl,rfl⟩:=he
 simp only[List.mem_cons,List.not_mem_nil,or_false,forall_eq_or_imp,forall_eq,decide_eq_true_eq]at ho
 have o1:=ho
 simp only[b8,AV.norm,bA,aF.norm,Con.size,List.cons.injEq,AV.c.injEq,AV.agg.injEq,aF.view.injEq,aL,true_and,and_true]at hnorm
 obtain⟨⟨rfl,rfl,rfl⟩,⟨rfl,rfl,rfl⟩,⟨rfl,rfl,rfl⟩,rfl,rfl,rfl⟩:=hnorm
 unfold krD krB
 cases h:bB k a b c on kd d vs with
 |false=>exact bE.nilTup (h':=[]) (c0:=.ints .i64 []) (mo t44 (a25 k a b c on kd d vs) (by simp only[h,o1];rfl)) rfl
 |true=>
  obtain⟨ha,hb,hc⟩:=dT h
  cases ho:on with
  |true=>subst ho;exact mo t44 (a26 k a b c true kd d vs) (by simp[h,o1])
  |false=>
   obtain⟨hs,-,-,-⟩:=EA h ho
   obtain⟨q1,q2,q3,q4,q5⟩:=f6 hs
   subst ho
   exact mo t44 (a27 k a b c false kd d vs) (by simp[h,o1,q1,q2,q3,q4,q5])
def FO {α:Type} (x:α):List α:=[x,x,x,x,x,x,x,x]
def iL (x:PK):PK:=bif x.ok then(bif x.on then⟨x.kd,iH x.kd x.d,FO x.vs,FO true,false,0,[],0⟩else x)else PK0
theorem G0 {α:Type} {a:List α} (h:a.length=8) (x0 x1 x2 x3 x4 x5 x6 x7:α):((((((((a.set 0 x0).set 1 x1).set 2 x2).set 3 x3).set 4 x4).set 5 x5).set 6 x6).set 7 x7)=[x0,x1,x2,x3,x4,x5,x6,x7]:=by
 match a,h with
 |[_,_,_,_,_,_,_,_],_=>rfl
theorem a1V (k:Int) (a b:List Int) (c:List Bool) (on:Bool) (kd:Int) (d:List Int) (vs:Int):aE tt (a9 T44) ([]) 100 Tryz.f137 [.agg [.int .i64 k,.view none (.ints .i64 a) a.length 1 none,.view none (.ints .i64 b) b.length 1 none,.view none (.bools c) c.length 1 none,.bool on,.int .i64 kd,.view none (.ints .i64 d) d.length 1 none,.int .i64 vs]] [] [(0,true)]=
  some ⟨.agg [.int .i64 0,.nils,.nils,.nils,.bool false,.int .i64 0,.nils,.int .i64 0],[],(decide (d.length≤274877906944)&&((!bB k a b c on kd d vs)&&true)),[]⟩:=by kernel_rfl
theorem a1W (k:Int) (a b:List Int) (c:List Bool) (on:Bool) (kd:Int) (d:List Int) (vs:Int):aE tt (a9 T44) ([]) 100 Tryz.f137 [.agg [.int .i64 k,.view none (.ints .i64 a) a.length 1 none,.view none (.ints .i64 b) b.length 1 none,.view none (.bools c) c.length 1 none,.bool on,.int .i64 kd,.view none (.ints .i64 d) d.length 1 none,.int .i64 vs]] [] [(0,false),(0,true)]=
  some ⟨.agg [.int .i64 k,.sl 0 0 a.length 1 none,.sl 1 0 b.length 1 none,.sl 2 0 c.length 1 none,.bool on,.int .i64 kd,.sl 3 0 d.length 1 none,.int .i64 vs],[.live (.ints .i64 a),.live (.ints .i64 b),.live (.bools c),.live (.ints .i64 d)],(decide (d.length≤274877906944)&&(!!bB k a b c on kd d vs&&(decide (a.length≤274877906944)&&(decide (b.length≤274877906944)&&(decide (c.length≤274877906944)&&(decide (d.length≤274877906944)&&((!on)&&true))))))),[]⟩:=by kernel_rfl
theorem a1X (k:Int) (a b:List Int) (c:List Bool) (on:Bool) (kd:Int) (d:List Int) (vs:Int):aE tt (a9 T44) ([]) 100 Tryz.f137 [.agg [.int .i64 k,.view none (.ints .i64 a) a.length 1 none,.view none (.ints .i64 b) b.length 1 none,.view none (.bools c) c.length 1 none,.bool on,.int .i64 kd,.view none (.ints .i64 d) d.length 1 none,.int .i64 vs]] [] [(0,false),(0,false)]=
  some ⟨.agg [.int .i64 kd,.sl 0 0 a.length 1 none,.sl 1 0 b.length 1 none,.sl 2 0 c.length 1 none,.bool false,.int .i64 0,.nils,.int .i64 0],[.live (.ints .i64 ((((((((a.set 0 (cO kd [ifI (aG d 4) (d.getD 0 0),ifI (aG d 4) (d.getD 1 0),ifI (aG d 4) (d.getD 2 0),ifI (aG d 4) (d.getD 3 0)] 0)).set 1 (cO kd [ifI (aG d 4) (d.getD 0 0),ifI (aG d 4) (d.getD 1 0),ifI (aG d 4) (d.getD 2 0),ifI (aG d 4) (d.getD 3 0)] 1)).set 2 (cO kd [ifI (aG d 4) (d.getD 0 0),ifI (aG d 4) (d.getD 1 0),ifI (aG d 4) (d.getD 2 0),ifI (aG d 4) (d.getD 3 0)] 2)).set 3 (cO kd [ifI (aG d 4) (d.getD 0 0),ifI (aG d 4) (d.getD 1 0),ifI (aG d 4) (d.getD 2 0),ifI (aG d 4) (d.getD 3 0)] 3)).set 4 (cO kd [ifI (aG d 4) (d.getD 0 0),ifI (aG d 4) (d.getD 1 0),ifI (aG d 4) (d.getD 2 0),ifI (aG d 4) (d.getD 3 0)] 4)).set 5 (cO kd [ifI (aG d 4) (d.getD 0 0),ifI (aG d 4) (d.getD 1 0),ifI (aG d 4) (d.getD 2 0),ifI (aG d 4) (d.getD 3 0)] 5)).set 6 (cO kd [ifI (aG d 4) (d.getD 0 0),ifI (aG d 4) (d.getD 1 0),ifI (aG d 4) (d.getD 2 0),ifI (aG d 4) (d.getD 3 0)] 6)).set 7 (cO kd [ifI (aG d 4) (d.getD 0 0),ifI (aG d 4) (d.getD 1 0),ifI (aG d 4) (d.getD 2 0),ifI (aG d 4) (d.getD 3 0)] 7))),.live (.ints .i64 ((((((((b.set 0 vs).set 1 vs).set 2 vs).set 3 vs).set 4 vs).set 5 vs).set 6 vs).set 7 vs)),.live (.bools ((((((((c.set 0 true).set 1 true).set 2 true).set 3 true).set 4 true).set 5 true).set 6 true).set 7 true))],(decide (d.length≤274877906944)&&(!!bB k a b c on kd d vs&&(decide (a.length≤274877906944)&&(decide (b.length≤274877906944)&&(decide (c.length≤274877906944)&&(decide (d.length≤274877906944)&&((!!on)&&((decide (d.length=d.length)&&(decide (d.length≤274877906944)&&(bet kd 1 2&&(fok (ifI (aG d 4) (d.getD 0 0))&&(fok (ifI (aG d 4) (d.getD 1 0))&&(fok (ifI (aG d 4) (d.getD 2 0))&&(fok (ifI (aG d 4) (d.getD 3 0))&&(decide (0<(↑a.length:Int))&&(decide (0<a.length)&&(decide (0<(↑b.length:Int))&&(decide (0<b.length)&&(decide (0<(↑c.length:Int))&&(decide (0<c.length)&&true)))))&&true))))))))&&((decide (d.length=d.length)&&(decide (d.length≤274877906944)&&(bet kd 1 2&&(fok (ifI (aG d 4) (d.getD 0 0))&&(fok (ifI (aG d 4) (d.getD 1 0))&&(fok (ifI (aG d 4) (d.getD 2 0))&&(fok (ifI (aG d 4) (d.getD 3 0))&&(decide (1<(↑a.length:Int))&&(decide (1<(a.set 0 (cO kd [ifI (aG d 4) (d.getD 0 0),ifI (aG d 4) (d.getD 1 0),ifI (aG d 4) (d.getD 2 0),ifI (aG d 4) (d.getD 3 0)] 0)).length)&&(decide (1<(↑b.length:Int))&&(decide (1<(b.set 0 vs).length)&&(decide (1<(↑c.length:Int))&&(decide (1<(c.set 0 true).length)&&true)))))&&true))))))))&&((decide (d.length=d.length)&&(decide (d.length≤274877906944)&&(bet kd 1 2&&(fok (ifI (aG d 4) (d.getD 0 0))&&(fok (ifI (aG d 4) (d.getD 1 0))&&(fok (ifI (aG d 4) (d.getD 2 0))&&(fok (ifI (aG d 4) (d.getD 3 0))&&(decide (2<(↑a.length:Int))&&(decide (2<((a.set 0 (cO kd [ifI (aG d 4) (d.getD 0 0),ifI (aG d 4) (d.getD 1 0),ifI (aG d 4) (d.getD 2 0),ifI (aG d 4) (d.getD 3 0)] 0)).set 1 (cO kd [ifI (aG d 4) (d.getD 0 0),ifI (aG d 4) (d.getD 1 0),ifI (aG d 4) (d.getD 2 0),ifI (aG d 4) (d.getD 3 0)] 1)).length)&&(decide (2<(↑b.length:Int))&&(decide (2<((b.set 0 vs).set 1 vs).length)&&(decide (2<(↑c.length:Int))&&(decide (2<((c.set 0 true).set 1 true).length)&&true)))))&&true))))))))&&((decide (d.length=d.length)&&(decide (d.length≤274877906944)&&(bet kd 1 2&&(fok (ifI (aG d 4) (d.getD 0 0))&&(fok (ifI (aG d 4) (d.getD 1 0))&&(fok (ifI (aG d 4) (d.getD 2 0))&&(fok (ifI (aG d 4) (d.getD 3 0))&&(decide (3<(↑a.length:Int))&&(decide (3<(((a.set 0 (cO kd [ifI (aG d 4) (d.getD 0 0),ifI (aG d 4) (d.getD 1 0),ifI (aG d 4) (d.getD 2 0),ifI (aG d 4) (d.getD 3 0)] 0)).set 1 (cO kd [ifI (aG d 4) (d.getD 0 0),ifI (aG d 4) (d.getD 1 0),ifI (aG d 4) (d.getD 2 0),ifI (aG d 4) (d.getD 3 0)] 1)).set 2 (cO kd [ifI (aG d 4) (d.getD 0 0),ifI (aG d 4) (d.getD 1 0),ifI (aG d 4) (d.getD 2 0),ifI (aG d 4) (d.getD 3 0)] 2)).length)&&(decide (3<(↑b.length:Int))&&(decide (3<(((b.set 0 vs).set 1 vs).set 2 vs).length)&&(decide (3<(↑c.length:Int))&&(decide (3<(((c.set 0 true).set 1 true).set 2 true).length)&&true)))))&&true))))))))&&((decide (d.length=d.length)&&(decide (d.length≤274877906944)&&(bet kd 1 2&&(fok (ifI (aG d 4) (d.getD 0 0))&&(fok (ifI (aG d 4) (d.getD 1 0))&&(fok (ifI (aG d 4) (d.getD 2 0))&&(fok (ifI (aG d 4) (d.getD 3 0))&&(decide (4<(↑a.length:Int))&&(decide (4<((((a.set 0 (cO kd [ifI (aG d 4) (d.getD 0 0),ifI (aG d 4) (d.getD 1 0),ifI (aG d 4) (d.getD 2 0),ifI (aG d 4) (d.getD 3 0)] 0)).set 1 (cO kd [ifI (aG d 4) (d.getD 0 0),ifI (aG d 4) (d.getD 1 0),ifI (aG d 4) (d.getD 2 0),ifI (aG d 4) (d.getD 3 0)] 1)).set 2 (cO kd [ifI (aG d 4) (d.getD 0 0),ifI (aG d 4) (d.getD 1 0),ifI (aG d 4) (d.getD 2 0),ifI (aG d 4) (d.getD 3 0)] 2)).set 3 (cO kd [ifI (aG d 4) (d.getD 0 0),ifI (aG d 4) (d.getD 1 0),ifI (aG d 4) (d.getD 2 0),ifI (aG d 4) (d.getD 3 0)] 3)).length)&&(decide (4<(↑b.length:Int))&&(decide (4<((((b.set 0 vs).set 1 vs).set 2 vs).set 3 vs).length)&&(decide (4<(↑c.length:Int))&&(decide (4<((((c.set 0 true).set 1 true).set 2 true).set 3 true).length)&&true)))))&&true))))))))&&((decide (d.length=d.length)&&(decide (d.length≤274877906944)&&(bet kd 1 2&&(fok (ifI (aG d 4) (d.getD 0 0))&&(fok (ifI (aG d 4) (d.getD 1 0))&&(fok (ifI (aG d 4) (d.getD 2 0))&&(fok (ifI (aG d 4) (d.getD 3 0))&&(decide (5<(↑a.length:Int))&&(decide (5<(((((a.set 0 (cO kd [ifI (aG d 4) (d.getD 0 0),ifI (aG d 4) (d.getD 1 0),ifI (aG d 4) (d.getD 2 0),ifI (aG d 4) (d.getD 3 0)] 0)).set 1 (cO kd [ifI (aG d 4) (d.getD 0 0),ifI (aG d 4) (d.getD 1 0),ifI (aG d 4) (d.getD 2 0),ifI (aG d 4) (d.getD 3 0)] 1)).set 2 (cO kd [ifI (aG d 4) (d.getD 0 0),ifI (aG d 4) (d.getD 1 0),ifI (aG d 4) (d.getD 2 0),ifI (aG d 4) (d.getD 3 0)] 2)).set 3 (cO kd [ifI (aG d 4) (d.getD 0 0),ifI (aG d 4) (d.getD 1 0),ifI (aG d 4) (d.getD 2 0),ifI (aG d 4) (d.getD 3 0)] 3)).set 4 (cO kd [ifI (aG d 4) (d.getD 0 0),ifI (aG d 4) (d.getD 1 0),ifI (aG d 4) (d.getD 2 0),ifI (aG d 4) (d.getD 3 0)] 4)).length)&&(decide (5<(↑b.length:Int))&&(decide (5<(((((b.set 0 vs).set 1 vs).set 2 vs).set 3 vs).set 4 vs).length)&&(decide (5<(↑c.length:Int))&&(decide (5<(((((c.set 0 true).set 1 true).set 2 true).set 3 true).set 4 true).length)&&true)))))&&true))))))))&&((decide (d.length=d.length)&&(decide (d.length≤274877906944)&&(bet kd 1 2&&(fok (ifI (aG d 4) (d.getD 0 0))&&(fok (ifI (aG d 4) (d.getD 1 0))&&(fok (ifI (aG d 4) (d.getD 2 0))&&(fok (ifI (aG d 4) (d.getD 3 0))&&(decide (6<(↑a.length:Int))&&(decide (6<((((((a.set 0 (cO kd [ifI (aG d 4) (d.getD 0 0),ifI (aG d 4) (d.getD 1 0),ifI (aG d 4) (d.getD 2 0),ifI (aG d 4) (d.getD 3 0)] 0)).set 1 (cO kd [ifI (aG d 4) (d.getD 0 0),ifI (aG d 4) (d.getD 1 0),ifI (aG d 4) (d.getD 2 0),ifI (aG d 4) (d.getD 3 0)] 1)).set 2 (cO kd [ifI (aG d 4) (d.getD 0 0),ifI (aG d 4) (d.getD 1 0),ifI (aG d 4) (d.getD 2 0),ifI (aG d 4) (d.getD 3 0)] 2)).set 3 (cO kd [ifI (aG d 4) (d.getD 0 0),ifI (aG d 4) (d.getD 1 0),ifI (aG d 4) (d.getD 2 0),ifI (aG d 4) (d.getD 3 0)] 3)).set 4 (cO kd [ifI (aG d 4) (d.getD 0 0),ifI (aG d 4) (d.getD 1 0),ifI (aG d 4) (d.getD 2 0),ifI (aG d 4) (d.getD 3 0)] 4)).set 5 (cO kd [ifI (aG d 4) (d.getD 0 0),ifI (aG d 4) (d.getD 1 0),ifI (aG d 4) (d.getD 2 0),ifI (aG d 4) (d.getD 3 0)] 5)).length)&&(decide (6<(↑b.length:Int))&&(decide (6<((((((b.set 0 vs).set 1 vs).set 2 vs).set 3 vs).set 4 vs).set 5 vs).length)&&(decide (6<(↑c.length:Int))&&(decide (6<((((((c.set 0 true).set 1 true).set 2 true).set 3 true).set 4 true).set 5 true).length)&&true)))))&&true))))))))&&((decide (d.length=d.length)&&(decide (d.length≤274877906944)&&(bet kd 1 2&&(fok (ifI (aG d 4) (d.getD 0 0))&&(fok (ifI (aG d 4) (d.getD 1 0))&&(fok (ifI (aG d 4) (d.getD 2 0))&&(fok (ifI (aG d 4) (d.getD 3 0))&&(decide (7<(↑a.length:Int))&&(decide (7<(((((((a.set 0 (cO kd [ifI (aG d 4) (d.getD 0 0),ifI (aG d 4) (d.getD 1 0),ifI (aG d 4) (d.getD 2 0),ifI (aG d 4) (d.getD 3 0)] 0)).set 1 (cO kd [ifI (aG d 4) (d.getD 0 0),ifI (aG d 4) (d.getD 1 0),ifI (aG d 4) (d.getD 2 0),ifI (aG d 4) (d.getD 3 0)] 1)).set 2 (cO kd [ifI (aG d 4) (d.getD 0 0),ifI (aG d 4) (d.getD 1 0),ifI (aG d 4) (d.getD 2 0),ifI (aG d 4) (d.getD 3 0)] 2)).set 3 (cO kd [ifI (aG d 4) (d.getD 0 0),ifI (aG d 4) (d.getD 1 0),ifI (aG d 4) (d.getD 2 0),ifI (aG d 4) (d.getD 3 0)] 3)).set 4 (cO kd [ifI (aG d 4) (d.getD 0 0),ifI (aG d 4) (d.getD 1 0),ifI (aG d 4) (d.getD 2 0),ifI (aG d 4) (d.getD 3 0)] 4)).set 5 (cO kd [ifI (aG d 4) (d.getD 0 0),ifI (aG d 4) (d.getD 1 0),ifI (aG d 4) (d.getD 2 0),ifI (aG d 4) (d.getD 3 0)] 5)).set 6 (cO kd [ifI (aG d 4) (d.getD 0 0),ifI (aG d 4) (d.getD 1 0),ifI (aG d 4) (d.getD 2 0),ifI (aG d 4) (d.getD 3 0)] 6)).length)&&(decide (7<(↑b.length:Int))&&(decide (7<(((((((b.set 0 vs).set 1 vs).set 2 vs).set 3 vs).set 4 vs).set 5 vs).set 6 vs).length)&&(decide (7<(↑c.length:Int))&&(decide (7<(((((((c.set 0 true).set 1 true).set 2 true).set 3 true).set 4 true).set 5 true).set 6 true).length)&&true)))))&&true))))))))&&true))))))))))))))),[]⟩:=by kernel_rfl
def BX:aM:=fun args h=>
 match args,h with
 |[.agg [.int .i64 k,.view _ (.ints .i64 a) n1 1 _,.view _ (.ints .i64 b) n2 1 _,.view _ (.bools c) n3 1 _,.bool on,.int .i64 kd,.view _ (.ints .i64 d) n4 1 _,.int .i64 vs]],[]=>
  some (.agg (iL ⟨k,a,b,c,on,kd,d,vs⟩).cells,[.live (.ints .i64 (iL ⟨k,a,b,c,on,kd,d,vs⟩).a),.live (.ints .i64 (iL ⟨k,a,b,c,on,kd,d,vs⟩).b),.live (.bools (iL ⟨k,a,b,c,on,kd,d,vs⟩).c),.live (.ints .i64 (iL ⟨k,a,b,c,on,kd,d,vs⟩).d)],[decide (d.length≤274877906944)])
 |_,_=>none
theorem m16:aS Tryz.prog 137 BX:=by
 intro args h res h' o hnorm he ho
 unfold BX at he
 split at he
 case h_2=>cases he
 rename_i k nl1 a n1 cap1 nl2 b n2 cap2 nl3 c n3 cap3 on kd nl4 d n4 cap4 vs
 simp only[Option.some.injEq,Prod.mk.injEq]at he
 obtain⟨rfl,rfl,rfl⟩:=he
 simp only[List.mem_cons,List.not_mem_nil,or_false,forall_eq_or_imp,forall_eq,decide_eq_true_eq]at ho
 have o1:=ho
 simp only[b8,AV.norm,bA,aF.norm,Con.size,List.cons.injEq,AV.c.injEq,AV.agg.injEq,aF.view.injEq,aL,true_and,and_true]at hnorm
 obtain⟨⟨rfl,rfl,rfl⟩,⟨rfl,rfl,rfl⟩,⟨rfl,rfl,rfl⟩,rfl,rfl,rfl⟩:=hnorm
 unfold iL PK.ok
 dsimp only
 cases h:bB k a b c on kd d vs with
 |false=>exact wN (h:=[]) (mo t44 (a1V k a b c on kd d vs) (by simp only[h,o1];rfl))
 |true=>
  obtain⟨ha,hb,hc⟩:=dT h
  cases ho:on with
  |false=>subst ho;exact mo t44 (a1W k a b c false kd d vs) (by simp[h,o1,ha,hb,hc])
  |true=>
   obtain⟨h1,h2,h3⟩:=D1 h ho
   have hf:=oL h1
   subst ho
   have e:=a1X k a b c true kd d vs
   rw[G0 ha,G0 hb,G0 hc]at e
   have mm:=mo (f:=137) t44 e (by simp only[h,h1,h2,ifI,hf,List.length_set,ha,hb,hc,bS,rpS];simp;omega)
   have:=mm.nil1 (es:=1) (c0:=.ints .i64 []) rfl rfl
   rw[ha,hb,hc]at this⊢
   exact this
def pF (x:PK) (at_:Int):PK:=bif x.ok&&bet at_ 0 7 then(bif x.on then⟨x.k,x.a.set at_.toNat ((iH x.kd x.d).getD at_.toNat 0),x.b.set at_.toNat x.vs,x.c.set at_.toNat true,x.on,x.kd,x.d,x.vs⟩else x)else PK0
def KQ (x:PK) (at_:Int):Bool:=bif x.ok&&bet at_ 0 7 then x.on else false
theorem a28 (k:Int) (a b:List Int) (c:List Bool) (on:Bool) (kd:Int) (d:List Int) (vs:Int) (x:Int):aE tt (a9 T44) ([]) 100 Tryz.f140 [.agg [.int .i64 k,.view none (.ints .i64 a) a.length 1 none,.view none (.ints .i64 b) b.length 1 none,.view none (.bools c) c.length 1 none,.bool on,.int .i64 kd,.view none (.ints .i64 d) d.length 1 none,.int .i64 vs],.c (.int .i64 x)] [] [(0,true)]=
  some ⟨.tup [.agg [.int .i64 0,.nils,.nils,.nils,.bool false,.int .i64 0,.nils,.int .i64 0],.c (.bool false)],[],(decide (d.length≤274877906944)&&(rp3 (!bB k a b c on kd d vs) ((!bB k a b c on kd d vs)&&true))),[]⟩:=by kernel_rfl
theorem a29 (k:Int) (a b:List Int) (c:List Bool) (on:Bool) (kd:Int) (d:List Int) (vs:Int) (x:Int):aE tt (a9 T44) ([]) 100 Tryz.f140 [.agg [.int .i64 k,.view none (.ints .i64 a) a.length 1 none,.view none (.ints .i64 b) b.length 1 none,.view none (.bools c) c.length 1 none,.bool on,.int .i64 kd,.view none (.ints .i64 d) d.length 1 none,.int .i64 vs],.c (.int .i64 x)] [] [(0,false),(0,true)]=
  some ⟨.tup [.agg [.int .i64 0,.nils,.nils,.nils,.bool false,.int .i64 0,.nils,.int .i64 0],.c (.bool false)],[],(decide (d.length≤274877906944)&&(rp3 (!!bB k a b c on kd d vs) ((bif !bB k a b c on kd d vs then true else !bet x 0 7)&&true))),[]⟩:=by kernel_rfl
theorem a2A (k:Int) (a b:List Int) (c:List Bool) (on:Bool) (kd:Int) (d:List Int) (vs:Int) (x:Int):aE tt (a9 T44) ([]) 100 Tryz.f140 [.agg [.int .i64 k,.view none (.ints .i64 a) a.length 1 none,.view none (.ints .i64 b) b.length 1 none,.view none (.bools c) c.length 1 none,.bool on,.int .i64 kd,.view none (.ints .i64 d) d.length 1 none,.int .i64 vs],.c (.int .i64 x)] [] [(0,false),(0,false),(0,true)]=
  some ⟨.tup [.agg [.int .i64 k,.sl 0 0 a.length 1 none,.sl 1 0 b.length 1 none,.sl 2 0 c.length 1 none,.bool on,.int .i64 kd,.sl 3 0 d.length 1 none,.int .i64 vs],.c (.bool on)],[.live (.ints .i64 (a.set x.toNat ((lC kd [ifI (aG d 4) (d.getD 0 0),ifI (aG d 4) (d.getD 1 0),ifI (aG d 4) (d.getD 2 0),ifI (aG d 4) (d.getD 3 0)]).getD x.toNat 0))),.live (.ints .i64 (b.set x.toNat vs)),.live (.bools (c.set x.toNat true)),.live (.ints .i64 d)],(decide (d.length≤274877906944)&&(rp3 (!!bB k a b c on kd d vs) ((!bif !bB k a b c on kd d vs then true else !bet x 0 7)&&(decide (a.length≤274877906944)&&(decide (b.length≤274877906944)&&(decide (c.length≤274877906944)&&(decide (d.length≤274877906944)&&((on)&&((decide (d.length=d.length)&&(decide (d.length≤274877906944)&&(bet kd 1 2&&(fok (ifI (aG d 4) (d.getD 0 0))&&(fok (ifI (aG d 4) (d.getD 1 0))&&(fok (ifI (aG d 4) (d.getD 2 0))&&(fok (ifI (aG d 4) (d.getD 3 0))&&(decide (0≤x)&&(decide (x<8)&&(decide (x.toNat<(lC kd [ifI (aG d 4) (d.getD 0 0),ifI (aG d 4) (d.getD 1 0),ifI (aG d 4) (d.getD 2 0),ifI (aG d 4) (d.getD 3 0)]).length)&&(decide (0≤x)&&(decide (x<(↑a.length:Int))&&(decide (x.toNat<a.length)&&(decide (0≤x)&&(decide (x<(↑b.length:Int))&&(decide (x.toNat<b.length)&&(decide (0≤x)&&(decide (x<(↑c.length:Int))&&(decide (x.toNat<c.length)&&true))))))))&&true)))))))))))&&true))))))))),[]⟩:=by kernel_rfl
theorem a2B (k:Int) (a b:List Int) (c:List Bool) (on:Bool) (kd:Int) (d:List Int) (vs:Int) (x:Int):aE tt (a9 T44) ([]) 100 Tryz.f140 [.agg [.int .i64 k,.view none (.ints .i64 a) a.length 1 none,.view none (.ints .i64 b) b.length 1 none,.view none (.bools c) c.length 1 none,.bool on,.int .i64 kd,.view none (.ints .i64 d) d.length 1 none,.int .i64 vs],.c (.int .i64 x)] [] [(0,false),(0,false),(0,false)]=
  some ⟨.tup [.agg [.int .i64 k,.sl 0 0 a.length 1 none,.sl 1 0 b.length 1 none,.sl 2 0 c.length 1 none,.bool on,.int .i64 kd,.sl 3 0 d.length 1 none,.int .i64 vs],.c (.bool on)],[.live (.ints .i64 a),.live (.ints .i64 b),.live (.bools c),.live (.ints .i64 d)],(decide (d.length≤274877906944)&&(rp3 (!!bB k a b c on kd d vs) ((!bif !bB k a b c on kd d vs then true else !bet x 0 7)&&(decide (a.length≤274877906944)&&(decide (b.length≤274877906944)&&(decide (c.length≤274877906944)&&(decide (d.length≤274877906944)&&((!on)&&true)))))))),[]⟩:=by kernel_rfl
def xB:aM:=fun args h=>
 match args,h with
 |[.agg [.int .i64 k,.view _ (.ints .i64 a) n1 1 _,.view _ (.ints .i64 b) n2 1 _,.view _ (.bools c) n3 1 _,.bool on,.int .i64 kd,.view _ (.ints .i64 d) n4 1 _,.int .i64 vs],.c (.int .i64 x)],[]=>
  some (.tup [.agg (pF ⟨k,a,b,c,on,kd,d,vs⟩ x).cells,.c (.bool (KQ ⟨k,a,b,c,on,kd,d,vs⟩ x))],[.live (.ints .i64 (pF ⟨k,a,b,c,on,kd,d,vs⟩ x).a),.live (.ints .i64 (pF ⟨k,a,b,c,on,kd,d,vs⟩ x).b),.live (.bools (pF ⟨k,a,b,c,on,kd,d,vs⟩ x).c),.live (.ints .i64 (pF ⟨k,a,b,c,on,kd,d,vs⟩ x).d)],[decide (d.length≤274877906944)])
 |_,_=>none
theorem m26:aS Tryz.prog 140 xB:=by
 intro args h res h' o hnorm he ho
 unfold xB at he
 split at he
 case h_2=>cases he
 rename_i k nl1 a n1 cap1 nl2 b n2 cap2 nl3 c n3 cap3 on kd nl4 d n4 cap4 vs x
 simp only[Option.some.injEq,Prod.mk.injEq]at he
 obtain⟨rfl,rfl,rfl⟩:=he
 simp only[List.mem_cons,List.not_mem_nil,or_false,forall_eq_or_imp,forall_eq,decide_eq_true_eq]at ho
 have o1:=ho
 simp only[b8,AV.norm,bA,aF.norm,Con.size,List.cons.injEq,AV.c.injEq,AV.agg.injEq,aF.view.injEq,aL,true_and,and_true]at hnorm
 obtain⟨⟨rfl,rfl,rfl⟩,⟨rfl,rfl,rfl⟩,⟨rfl,rfl,rfl⟩,rfl,rfl,rfl⟩:=hnorm
 unfold pF KQ PK.ok
 dsimp only
 cases h:bB k a b c on kd d vs with
 |false=>exact iR (mo t44 (a28 k a b c on kd d vs x) (by simp[h,o1]))
 |true=>
  obtain⟨ha,hb,hc⟩:=dT h
  cases hx:bet x 0 7 with
  |false=>exact iR (mo t44 (a29 k a b c on kd d vs x) (by simp[h,hx,o1]))
  |true=>
   have hx':=bN.1 hx
   cases ho:on with
   |false=>subst ho;exact mo t44 (a2B k a b c false kd d vs x) (by simp[h,hx,o1,ha,hb,hc])
   |true=>
    obtain⟨h1,h2,h3⟩:=D1 h ho
    have hf:=oL h1
    subst ho
    have mm:=mo (f:=140) t44 (a2A k a b c true kd d vs x) (by simp only[h,hx,h1,h2,ifI,hf,List.length_set,ha,hb,hc,lC,List.length_cons,List.length_nil,bS,rpS];omega)
    have e1:(a.set x.toNat ((iH kd d).getD x.toNat 0)).length=a.length:=List.length_set
    have e2:(b.set x.toNat vs).length=b.length:=List.length_set
    have e3:(c.set x.toNat true).length=c.length:=List.length_set
    show bE _ _ _ _ (.tup [.agg [.int .i64 k,.sl 0 0 (a.set x.toNat ((iH kd d).getD x.toNat 0)).length 1 none,.sl 1 0 (b.set x.toNat vs).length 1 none,.sl 2 0 (c.set x.toNat true).length 1 none,.bool true,.int .i64 kd,.sl 3 0 d.length 1 none,.int .i64 vs],.c (.bool true)]) _
    rw[e1,e2,e3]
    exact mm
end
section
def dU (x:PK) (kind:Int) (e:List Int):PK:=
 bif x.ok&&(bet kind 1 2&&aG e 4)then(bif x.on||(i9 x.b x.c==99)then x else⟨x.k,x.a,x.b,x.c,true,kind,e,i9 x.b x.c+1⟩)else PK0
def CM (x:PK) (kind:Int) (e:List Int):Bool:=bif x.ok&&(bet kind 1 2&&aG e 4)then !(x.on||(i9 x.b x.c==99))else false
theorem a2I (k:Int) (a b:List Int) (c:List Bool) (on:Bool) (kd:Int) (d:List Int) (vs:Int) (x:Int) (e:List Int):aE tt (a9 T44) ([]) 100 Tryz.f188 [.agg [.int .i64 k,.view none (.ints .i64 a) a.length 1 none,.view none (.ints .i64 b) b.length 1 none,.view none (.bools c) c.length 1 none,.bool on,.int .i64 kd,.view none (.ints .i64 d) d.length 1 none,.int .i64 vs],.c (.int .i64 x),.c (.view none (.ints .i64 e) e.length 1 none)] [] [(0,true)]=
  some ⟨.tup [.agg [.int .i64 0,.nils,.nils,.nils,.bool false,.int .i64 0,.nils,.int .i64 0],.c (.bool false)],[],(decide (d.length≤274877906944)&&(rp3 (!bB k a b c on kd d vs) ((!bB k a b c on kd d vs)&&true))),[]⟩:=by kernel_rfl
theorem a2J (k:Int) (a b:List Int) (c:List Bool) (on:Bool) (kd:Int) (d:List Int) (vs:Int) (x:Int) (e:List Int):aE tt (a9 T44) ([]) 100 Tryz.f188 [.agg [.int .i64 k,.view none (.ints .i64 a) a.length 1 none,.view none (.ints .i64 b) b.length 1 none,.view none (.bools c) c.length 1 none,.bool on,.int .i64 kd,.view none (.ints .i64 d) d.length 1 none,.int .i64 vs],.c (.int .i64 x),.c (.view none (.ints .i64 e) e.length 1 none)] [] [(0,false),(0,true)]=
  some ⟨.tup [.agg [.int .i64 0,.nils,.nils,.nils,.bool false,.int .i64 0,.nils,.int .i64 0],.c (.bool false)],[],(decide (d.length≤274877906944)&&(rp3 (!!bB k a b c on kd d vs) (rp4 (bif !bB k a b c on kd d vs then true else !bet x 1 2) true))),[]⟩:=by kernel_rfl
theorem a2K (k:Int) (a b:List Int) (c:List Bool) (on:Bool) (kd:Int) (d:List Int) (vs:Int) (x:Int) (e:List Int):aE tt (a9 T44) ([]) 100 Tryz.f188 [.agg [.int .i64 k,.view none (.ints .i64 a) a.length 1 none,.view none (.ints .i64 b) b.length 1 none,.view none (.bools c) c.length 1 none,.bool on,.int .i64 kd,.view none (.ints .i64 d) d.length 1 none,.int .i64 vs],.c (.int .i64 x),.c (.view none (.ints .i64 e) e.length 1 none)] [] [(0,false),(0,false),(0,true)]=
  some ⟨.tup [.agg [.int .i64 0,.nils,.nils,.nils,.bool false,.int .i64 0,.nils,.int .i64 0],.c (.bool false)],[],(decide (d.length≤274877906944)&&(rp3 (!!bB k a b c on kd d vs) (rp2 (!bif !bB k a b c on kd d vs then true else !bet x 1 2) (decide (e.length≤274877906944)&&((!bif !bB k a b c on kd d vs then true else !bet x 1 2)&&((bif bif !bB k a b c on kd d vs then true else !bet x 1 2 then true else !aG e 4)&&true)))))),[]⟩:=by kernel_rfl
theorem a2L (k:Int) (a b:List Int) (c:List Bool) (on:Bool) (kd:Int) (d:List Int) (vs:Int) (x:Int) (e:List Int):aE tt (a9 T44) ([]) 100 Tryz.f188 [.agg [.int .i64 k,.view none (.ints .i64 a) a.length 1 none,.view none (.ints .i64 b) b.length 1 none,.view none (.bools c) c.length 1 none,.bool on,.int .i64 kd,.view none (.ints .i64 d) d.length 1 none,.int .i64 vs],.c (.int .i64 x),.c (.view none (.ints .i64 e) e.length 1 none)] [] [(0,false),(0,false),(0,false),(0,true)]=
  some ⟨.tup [.agg [.int .i64 k,.sl 0 0 a.length 1 none,.sl 1 0 b.length 1 none,.sl 2 0 c.length 1 none,.bool on,.int .i64 kd,.sl 3 0 d.length 1 none,.int .i64 vs],.c (.bool false)],[.live (.ints .i64 a),.live (.ints .i64 b),.live (.bools c),.live (.ints .i64 d)],(decide (d.length≤274877906944)&&(rp3 (!!bB k a b c on kd d vs) (rp2 (!bif !bB k a b c on kd d vs then true else !bet x 1 2) (decide (e.length≤274877906944)&&((!bif !bB k a b c on kd d vs then true else !bet x 1 2)&&((!bif bif !bB k a b c on kd d vs then true else !bet x 1 2 then true else !aG e 4)&&(decide (a.length≤274877906944)&&(decide (b.length≤274877906944)&&(decide (c.length≤274877906944)&&(decide (d.length≤274877906944)&&(rp5 (on) true))))))))))),[]⟩:=by kernel_rfl
theorem a2M (k:Int) (a b:List Int) (c:List Bool) (on:Bool) (kd:Int) (d:List Int) (vs:Int) (x:Int) (e:List Int):aE tt (a9 T44) ([]) 100 Tryz.f188 [.agg [.int .i64 k,.view none (.ints .i64 a) a.length 1 none,.view none (.ints .i64 b) b.length 1 none,.view none (.bools c) c.length 1 none,.bool on,.int .i64 kd,.view none (.ints .i64 d) d.length 1 none,.int .i64 vs],.c (.int .i64 x),.c (.view none (.ints .i64 e) e.length 1 none)] [] [(0,false),(0,false),(0,false),(0,false),(0,true)]=
  some ⟨.tup [.agg [.int .i64 k,.sl 0 0 a.length 1 none,.sl 1 0 b.length 1 none,.sl 2 0 c.length 1 none,.bool on,.int .i64 kd,.sl 3 0 d.length 1 none,.int .i64 vs],.c (.bool false)],[.live (.ints .i64 a),.live (.ints .i64 b),.live (.bools c),.live (.ints .i64 d)],(decide (d.length≤274877906944)&&(rp3 (!!bB k a b c on kd d vs) (rp2 (!bif !bB k a b c on kd d vs then true else !bet x 1 2) (decide (e.length≤274877906944)&&((!bif !bB k a b c on kd d vs then true else !bet x 1 2)&&((!bif bif !bB k a b c on kd d vs then true else !bet x 1 2 then true else !aG e 4)&&(decide (a.length≤274877906944)&&(decide (b.length≤274877906944)&&(decide (c.length≤274877906944)&&(decide (d.length≤274877906944)&&(rp3 (!on) (decide (c.length≤8)&&(decide (b.length=c.length)&&((!on)&&((bif on then true else i9 b c==99)&&true))))))))))))))),[]⟩:=by kernel_rfl
theorem a2N (k:Int) (a b:List Int) (c:List Bool) (on:Bool) (kd:Int) (d:List Int) (vs:Int) (x:Int) (e:List Int):aE tt (a9 T44) ([]) 100 Tryz.f188 [.agg [.int .i64 k,.view none (.ints .i64 a) a.length 1 none,.view none (.ints .i64 b) b.length 1 none,.view none (.bools c) c.length 1 none,.bool on,.int .i64 kd,.view none (.ints .i64 d) d.length 1 none,.int .i64 vs],.c (.int .i64 x),.c (.view none (.ints .i64 e) e.length 1 none)] [] [(0,false),(0,false),(0,false),(0,false),(0,false)]=
  some ⟨.tup [.agg [.int .i64 k,.sl 0 0 a.length 1 none,.sl 1 0 b.length 1 none,.sl 2 0 c.length 1 none,.bool true,.int .i64 x,.sl 3 0 (↑e.length:Int).toNat 1 none,.int .i64 (IntKind.i64.wrap (i9 b c+1))],.c (.bool true)],[.live (.ints .i64 a),.live (.ints .i64 b),.live (.bools c),.live (.ints .i64 e)],(decide (d.length≤274877906944)&&(rp3 (!!bB k a b c on kd d vs) (rp2 (!bif !bB k a b c on kd d vs then true else !bet x 1 2) (decide (e.length≤274877906944)&&((!bif !bB k a b c on kd d vs then true else !bet x 1 2)&&((!bif bif !bB k a b c on kd d vs then true else !bet x 1 2 then true else !aG e 4)&&(decide (a.length≤274877906944)&&(decide (b.length≤274877906944)&&(decide (c.length≤274877906944)&&(decide (d.length≤274877906944)&&(rp3 (!on) (decide (c.length≤8)&&(decide (b.length=c.length)&&((!on)&&((!bif on then true else i9 b c==99)&&(decide (e.length≤274877906944)&&((rp2 (decide ((↑e.length:Int)≤(↑e.length:Int))) true)&&(decide (c.length≤8)&&((decide (b.length=c.length))&&true))))))))))))))))))),[]⟩:=by kernel_rfl
theorem gE {p:Int→Bool} (h0:p 0=true) {l:List Int} (h:l.all p=true) (i:Nat):p (l.getD i 0)=true:=by
 rw[List.getD_eq_getElem?_getD]
 cases hi:l[i]? with
 |none=>exact h0
 |some x=>exact List.all_eq_true.1 h _ (List.mem_of_getElem? hi)
theorem qZ {p:Int→Bool} {l:List Int} {i:Nat} {x:Int} (h:l.all p=true) (hx:p x=true):(l.set i x).all p=true:=by
 rw[List.all_eq_true]at h⊢
 intro y hy
 rcases List.mem_or_eq_of_mem_set hy with h'|h'
 ·exact h y h'
 ·rw[h'];exact hx
theorem EV {p:Int→Bool} (h0:p 0=true) {b:List Int} (hb:b.all p=true) (c:List Bool):(bJ b c).all p=true:=by
 have h1:(cQ b (flg c)).all p=true:=aY (step:=jN b (flg c)) (fun _ o=>o.all p=true) _ [] rfl fun i o _ h=>by
  simp only[jN,List.all_append,List.all_cons,List.all_nil,Bool.and_true,rpS,h,gE h0 hb,Bool.and_self]
 have swp_all: ∀(v:List Int) (j:Nat),v.all p=true→(swp v j).all p=true:=fun v j h=>qZ (qZ h (gE h0 h _)) (gE h0 h _)
 have h2:(cV (cQ b (flg c))).all p=true:=aY (step:=fun t v=>kA (t+1) v) (fun _ o=>o.all p=true) _ _ h1 fun i o _ h=>by
  have:=gO (step:=oR (i+1)) (fun _ b=>b.all p=true) (fun c=>c.all p=true) (i+1) 0 o h (fun k b _ _ hb=>by
   unfold oR
   cases decide (b.getD (i+1-k) 0<b.getD (i+1-k-1) 0)
   ·exact⟨fun b' h=>by simp at h,fun c h=>by simp at h;rw[←h];exact hb⟩
   ·exact⟨fun b' h=>by simp at h;rw[←h];exact swp_all _ _ hb,fun c h=>by simp at h⟩)
  show(kA (i+1) o).all p=true
  unfold kA
  revert this
  cases cD (oR (i+1)) (i+1) 0 o<;>exact fun h=>h
 have h3:(j6 (cV (cQ b (flg c)))).all p=true:=aY (step:=yB _) (fun _ o=>o.all p=true) _ _ h2 fun i o _ h=>qZ (qZ h (gE h0 h _)) (gE h0 h _)
 have h4: ∀(v:List Int) (n:Nat),v.all p=true→(eO v n).all p=true:=fun v n hv=>by
  induction n with
  |zero=>rfl
  |succ n ih=>
   simp only[eO]
   cases Nat.beq n 0||v.getD n 0 !=v.getD (n-1) 0
   ·exact ih
   ·simp only[cond_true,List.all_append,List.all_cons,List.all_nil,Bool.and_true,rpS,ih,gE h0 hv,Bool.and_self]
 exact h4 _ _ h3
theorem U6 {a b:List Int} {c:List Bool} (h:cH (nQ a b c) 8 0=true) (hb:b.length=8):(b.all fun x=>bet x 0 99)=true:=by
 rw[List.all_eq_true]
 intro x hx
 obtain⟨i,hi⟩:=List.getElem?_of_mem hx
 have hlt:=(List.getElem?_eq_some_iff.1 hi).1
 have:=cC.1 h i (by omega) (by omega)
 unfold nQ at this
 have hg:b.getD i 0=x:=by rw[List.getD_eq_getElem?_getD,hi];rfl
 rw[hg]at this
 cases h1:c.getD i false with
 |true=>
  rw[h1,cond_true,Bool.and_eq_true,bN]at this
  exact bN.2 ⟨by omega,this.2.2⟩
 |false=>
  rw[h1,cond_false,Bool.and_eq_true,Bool.not_eq_true']at this
  have h2:x=0:=by simpa using this.2
  rw[h2];rfl
theorem GB {a b:List Int} {c:List Bool} (h:cH (nQ a b c) 8 0=true) (hb:b.length=8) (hc:c.length=8):bet (i9 b c) 0 99=true:=
 gE (p:=fun x=>bet x 0 99) rfl (EV (p:=fun x=>bet x 0 99) rfl (U6 h hb) c) 0
def GK:aM:=fun args h=>
 match args,h with
 |[.agg [.int .i64 k,.view _ (.ints .i64 a) n1 1 _,.view _ (.ints .i64 b) n2 1 _,.view _ (.bools c) n3 1 _,.bool on,.int .i64 kd,.view _ (.ints .i64 d) n4 1 _,.int .i64 vs],.c (.int .i64 x),.c (.view _ (.ints .i64 e) n5 1 _)],[]=>
  some (.tup [.agg (dU ⟨k,a,b,c,on,kd,d,vs⟩ x e).cells,.c (.bool (CM ⟨k,a,b,c,on,kd,d,vs⟩ x e))],[.live (.ints .i64 (dU ⟨k,a,b,c,on,kd,d,vs⟩ x e).a),.live (.ints .i64 (dU ⟨k,a,b,c,on,kd,d,vs⟩ x e).b),.live (.bools (dU ⟨k,a,b,c,on,kd,d,vs⟩ x e).c),.live (.ints .i64 (dU ⟨k,a,b,c,on,kd,d,vs⟩ x e).d)],[decide (d.length≤274877906944),decide (e.length≤274877906944)])
 |_,_=>none
theorem m36:aS Tryz.prog 188 GK:=by
 intro args h res h' o hnorm he ho
 unfold GK at he
 split at he
 case h_2=>cases he
 rename_i k nl1 a n1 cap1 nl2 b n2 cap2 nl3 c n3 cap3 on kd nl4 d n4 cap4 vs x nl5 e n5 cap5
 simp only[Option.some.injEq,Prod.mk.injEq]at he
 obtain⟨rfl,rfl,rfl⟩:=he
 simp only[List.mem_cons,List.not_mem_nil,or_false,forall_eq_or_imp,forall_eq,decide_eq_true_eq]at ho
 obtain⟨o1,o2⟩:=ho
 simp only[b8,AV.norm,bA,aF.norm,Con.size,List.cons.injEq,AV.c.injEq,AV.agg.injEq,aF.view.injEq,aL,true_and,and_true]at hnorm
 obtain⟨⟨⟨rfl,rfl,rfl⟩,⟨rfl,rfl,rfl⟩,⟨rfl,rfl,rfl⟩,rfl,rfl,rfl⟩,rfl,rfl,rfl⟩:=hnorm
 unfold dU CM PK.ok
 dsimp only
 cases h:bB k a b c on kd d vs with
 |false=>exact iR (mo t44 (a2I k a b c on kd d vs x e) (by simp[h,o1]))
 |true=>
  obtain⟨ha,hb,hc⟩:=dT h
  cases hx:bet x 1 2 with
  |false=>exact iR (mo t44 (a2J k a b c on kd d vs x e) (by simp[h,hx,o1]))
  |true=>
   cases he:aG e 4 with
   |false=>exact iR (mo t44 (a2K k a b c on kd d vs x e) (by simp[h,hx,he,o1,o2]))
   |true=>
    cases ho:on with
    |true=>
     subst ho
     exact mo t44 (a2L k a b c true kd d vs x e) (by simp[h,hx,he,o1,o2,ha,hb,hc])
    |false=>
     obtain⟨hs,-,-,-⟩:=EA h ho
     subst ho
     simp only[bZ,Bool.and_eq_true,rpS]at hs
     have ht:=bN.1 (GB hs.2.2.1 hb hc)
     cases hT:i9 b c==99 with
     |true=>exact mo t44 (a2M k a b c false kd d vs x e) (by simp[h,hx,he,hT,o1,o2,ha,hb,hc])
     |false=>
      have e6:=a2N k a b c false kd d vs x e
      rw[aB (by omega) (by omega)]at e6
      exact mo t44 e6 (by simp[h,hx,he,hT,o1,o2,ha,hb,hc])
def vP (x:PK) (at_:Int):PK:=⟨x.k,x.a.set at_.toNat 0,x.b.set at_.toNat 0,x.c.set at_.toNat false,x.on,x.kd,x.d,x.vs⟩
def jI (x:PK) (at_:Int):PK:=bif x.ok&&bet at_ 0 7 then(bif !rdS x.k (vP x at_).a (vP x at_).b (vP x at_).c&& !x.on then x else vP x at_)else PK0
noncomputable def T45:List aZ:=[⟨118,[],nm qW⟩,⟨137,[],nm BX⟩,⟨140,[],nm xB⟩,⟨188,[],nm GK⟩]++T44
theorem e45:a7 Tryz.prog T45:=by
 refine a7.append ?_ e44
 intro e he
 simp only[List.mem_cons,List.not_mem_nil,or_false]at he
 rcases he with rfl|rfl|rfl|rfl
 ·exact m20.ok
 ·exact m16.ok
 ·exact m26.ok
 ·exact m36.ok
theorem t45:bK Tryz.prog (a9 T45):=aO e45
theorem a2U (k:Int) (a b:List Int) (c:List Bool) (on:Bool) (kd:Int) (d:List Int) (vs:Int) (x:Int):aE tt (a9 T45) ([]) 100 Tryz.f136 [.agg [.int .i64 k,.view none (.ints .i64 a) a.length 1 none,.view none (.ints .i64 b) b.length 1 none,.view none (.bools c) c.length 1 none,.bool on,.int .i64 kd,.view none (.ints .i64 d) d.length 1 none,.int .i64 vs],.c (.int .i64 x)] [] [(0,true)]=
  some ⟨.tup [.agg [.int .i64 0,.nils,.nils,.nils,.bool false,.int .i64 0,.nils,.int .i64 0],.c (.bool false)],[],(decide (d.length≤274877906944)&&(rp3 (!bB k a b c on kd d vs) ((!bB k a b c on kd d vs)&&true))),[]⟩:=by kernel_rfl
theorem a2V (k:Int) (a b:List Int) (c:List Bool) (on:Bool) (kd:Int) (d:List Int) (vs:Int) (x:Int):aE tt (a9 T45) ([]) 100 Tryz.f136 [.agg [.int .i64 k,.view none (.ints .i64 a) a.length 1 none,.view none (.ints .i64 b) b.length 1 none,.view none (.bools c) c.length 1 none,.bool on,.int .i64 kd,.view none (.ints .i64 d) d.length 1 none,.int .i64 vs],.c (.int .i64 x)] [] [(0,false),(0,true)]=
  some ⟨.tup [.agg [.int .i64 0,.nils,.nils,.nils,.bool false,.int .i64 0,.nils,.int .i64 0],.c (.bool false)],[],(decide (d.length≤274877906944)&&(rp3 (!!bB k a b c on kd d vs) ((bif !bB k a b c on kd d vs then true else !bet x 1 2)&&true))),[]⟩:=by kernel_rfl
theorem a2W (k:Int) (a b:List Int) (c:List Bool) (on:Bool) (kd:Int) (d:List Int) (vs:Int) (x:Int):aE tt (a9 T45) ([]) 100 Tryz.f136 [.agg [.int .i64 k,.view none (.ints .i64 a) a.length 1 none,.view none (.ints .i64 b) b.length 1 none,.view none (.bools c) c.length 1 none,.bool on,.int .i64 kd,.view none (.ints .i64 d) d.length 1 none,.int .i64 vs],.c (.int .i64 x)] [] [(0,false),(0,false),(0,true)]=
  some ⟨.tup [.agg [.int .i64 k,.sl 0 0 a.length 1 none,.sl 1 0 b.length 1 none,.sl 2 0 c.length 1 none,.bool on,.int .i64 kd,.sl 3 0 d.length 1 none,.int .i64 vs],.c (.bool false)],[.live (.ints .i64 a),.live (.ints .i64 b),.live (.bools c),.live (.ints .i64 d)],(decide (d.length≤274877906944)&&(rp3 (!!bB k a b c on kd d vs) ((!bif !bB k a b c on kd d vs then true else !bet x 1 2)&&((k==x)&&(decide (a.length≤274877906944)&&(decide (b.length≤274877906944)&&(decide (c.length≤274877906944)&&((decide (d.length≤274877906944))&&true)))))))),[]⟩:=by kernel_rfl
theorem a2X (k:Int) (a b:List Int) (c:List Bool) (on:Bool) (kd:Int) (d:List Int) (vs:Int) (x:Int):aE tt (a9 T45) ([]) 100 Tryz.f136 [.agg [.int .i64 k,.view none (.ints .i64 a) a.length 1 none,.view none (.ints .i64 b) b.length 1 none,.view none (.bools c) c.length 1 none,.bool on,.int .i64 kd,.view none (.ints .i64 d) d.length 1 none,.int .i64 vs],.c (.int .i64 x)] [] [(0,false),(0,false),(0,false)]=
  some ⟨.tup [.agg [.int .i64 (dU {k:=k,a:=a,b:=b,c:=c,on:=on,kd:=kd,d:=d,vs:=vs} x (krD k a b c on kd d vs)).k,.sl 0 0 (dU {k:=k,a:=a,b:=b,c:=c,on:=on,kd:=kd,d:=d,vs:=vs} x (krD k a b c on kd d vs)).a.length 1 none,.sl 1 0 (dU {k:=k,a:=a,b:=b,c:=c,on:=on,kd:=kd,d:=d,vs:=vs} x (krD k a b c on kd d vs)).b.length 1 none,.sl 2 0 (dU {k:=k,a:=a,b:=b,c:=c,on:=on,kd:=kd,d:=d,vs:=vs} x (krD k a b c on kd d vs)).c.length 1 none,.bool (dU {k:=k,a:=a,b:=b,c:=c,on:=on,kd:=kd,d:=d,vs:=vs} x (krD k a b c on kd d vs)).on,.int .i64 (dU {k:=k,a:=a,b:=b,c:=c,on:=on,kd:=kd,d:=d,vs:=vs} x (krD k a b c on kd d vs)).kd,.sl 3 0 (dU {k:=k,a:=a,b:=b,c:=c,on:=on,kd:=kd,d:=d,vs:=vs} x (krD k a b c on kd d vs)).d.length 1 none,.int .i64 (dU {k:=k,a:=a,b:=b,c:=c,on:=on,kd:=kd,d:=d,vs:=vs} x (krD k a b c on kd d vs)).vs],.c (.bool (CM {k:=k,a:=a,b:=b,c:=c,on:=on,kd:=kd,d:=d,vs:=vs} x (krD k a b c on kd d vs)))],[.live (.ints .i64 (dU {k:=k,a:=a,b:=b,c:=c,on:=on,kd:=kd,d:=d,vs:=vs} x (krD k a b c on kd d vs)).a),.live (.ints .i64 (dU {k:=k,a:=a,b:=b,c:=c,on:=on,kd:=kd,d:=d,vs:=vs} x (krD k a b c on kd d vs)).b),.live (.bools (dU {k:=k,a:=a,b:=b,c:=c,on:=on,kd:=kd,d:=d,vs:=vs} x (krD k a b c on kd d vs)).c),.live (.ints .i64 (dU {k:=k,a:=a,b:=b,c:=c,on:=on,kd:=kd,d:=d,vs:=vs} x (krD k a b c on kd d vs)).d)],(decide (d.length≤274877906944)&&(rp3 (!!bB k a b c on kd d vs) ((!bif !bB k a b c on kd d vs then true else !bet x 1 2)&&((!k==x)&&(decide (d.length≤274877906944)&&(decide ((krD k a b c on kd d vs).length=(krD k a b c on kd d vs).length)&&(decide (d.length≤274877906944)&&((decide ((krD k a b c on kd d vs).length≤274877906944))&&true)))))))),[]⟩:=by kernel_rfl
def tbK (x:PK) (kind:Int):PK:=bif x.ok&&bet kind 1 2 then(bif x.k==kind then x else dU x kind (krD x.k x.a x.b x.c x.on x.kd x.d x.vs))else PK0
def tbB (x:PK) (kind:Int):Bool:=bif x.ok&&bet kind 1 2 then(bif x.k==kind then false else CM x kind (krD x.k x.a x.b x.c x.on x.kd x.d x.vs))else false
theorem O0 (k:Int) (w v:List Int):(rdX k w v).length≤4:=by
 unfold rdX
 cases rdB k w v<;>simp[U7]
theorem NY (k:Int) (a b:List Int) (c:List Bool):(rdD k a b c).length≤4:=by
 unfold rdD
 split
 ·exact O0 _ _ _
 ·simp
theorem xY (k:Int) (a b:List Int) (c:List Bool) (on:Bool) (kd:Int) (d:List Int) (vs:Int) (hd:d.length≤274877906944):(krD k a b c on kd d vs).length≤274877906944:=by
 unfold krD
 have:=NY k a b c
 cases bB k a b c on kd d vs
 ·simp
 ·cases on
  ·simp only[cond_true,cond_false];omega
  ·exact hd
def Q2:aM:=fun args h=>
 match args,h with
 |[.agg [.int .i64 k,.view _ (.ints .i64 a) n1 1 _,.view _ (.ints .i64 b) n2 1 _,.view _ (.bools c) n3 1 _,.bool on,.int .i64 kd,.view _ (.ints .i64 d) n4 1 _,.int .i64 vs],.c (.int .i64 x)],[]=>
  some (.tup [.agg (tbK ⟨k,a,b,c,on,kd,d,vs⟩ x).cells,.c (.bool (tbB ⟨k,a,b,c,on,kd,d,vs⟩ x))],[.live (.ints .i64 (tbK ⟨k,a,b,c,on,kd,d,vs⟩ x).a),.live (.ints .i64 (tbK ⟨k,a,b,c,on,kd,d,vs⟩ x).b),.live (.bools (tbK ⟨k,a,b,c,on,kd,d,vs⟩ x).c),.live (.ints .i64 (tbK ⟨k,a,b,c,on,kd,d,vs⟩ x).d)],[decide (d.length≤274877906944)])
 |_,_=>none
theorem m42:aS Tryz.prog 136 Q2:=by
 intro args h res h' o hnorm he ho
 unfold Q2 at he
 split at he
 case h_2=>cases he
 rename_i k nl1 a n1 cap1 nl2 b n2 cap2 nl3 c n3 cap3 on kd nl4 d n4 cap4 vs x
 simp only[Option.some.injEq,Prod.mk.injEq]at he
 obtain⟨rfl,rfl,rfl⟩:=he
 simp only[List.mem_cons,List.not_mem_nil,or_false,forall_eq_or_imp,forall_eq,decide_eq_true_eq]at ho
 have o1:=ho
 simp only[b8,AV.norm,bA,aF.norm,Con.size,List.cons.injEq,AV.c.injEq,AV.agg.injEq,aF.view.injEq,aL,true_and,and_true]at hnorm
 obtain⟨⟨rfl,rfl,rfl⟩,⟨rfl,rfl,rfl⟩,⟨rfl,rfl,rfl⟩,rfl,rfl,rfl⟩:=hnorm
 unfold tbK tbB PK.ok
 dsimp only
 cases h:bB k a b c on kd d vs with
 |false=>exact iR (mo t45 (a2U k a b c on kd d vs x) (by simp[h,o1]))
 |true=>
  obtain⟨ha,hb,hc⟩:=dT h
  cases hx:bet x 1 2 with
  |false=>exact iR (mo t45 (a2V k a b c on kd d vs x) (by simp[h,hx,o1]))
  |true=>
   cases hk:k==x with
   |true=>exact mo t45 (a2W k a b c on kd d vs x) (by simp only[h,hx,hk,o1,ha,hb,hc,bS,rpS];simp)
   |false=>
    have:=xY k a b c on kd d vs o1
    exact mo t45 (a2X k a b c on kd d vs x) (by simp only[h,hx,hk,o1,this,bS,rpS])
end
section
theorem f8.froz (m t id:Nat) {s:St} {len es:Nat} {cap:Option Nat} {c:Con} (h1:s.tmps.getD t (.tup [])=.c (.sl id 0 len es cap)) (h2:Heap.get s.heap id=.live c) (hf:c.free=true) (hz:len*es=c.size):
  f8 m s ⟨s.tmps.set t (.c (.view none c len es cap)),s.heap.set id .dead⟩:=fun X w0 ρ0 ρ a w h0 r=>by
 obtain⟨mo,m2⟩:=r.mem.kill (id:=id) (by rw[h2];simp)
 refine⟨upd ρ id .dead,⟨by simpa using r.size,fun u hu=> ?_,m2,r.defers,r.mono.trans mo.toB,r.ids.trans mo.ids⟩⟩
 simp only[List.length_set]at hu
 dsimp only
 by_cases e:u=t
 ·subst e
  have hx:=r.tmps u hu
  rw[h1]at hx
  have:(s.tmps.set u (.c (.view none c len es cap))).getD u (.tup [])=.c (.view none c len es cap):=by
   rw[List.getD_eq_getElem?_getD,List.getElem?_set_self hu];rfl
  rw[this]
  generalize a.tmps.getD u undef=v at hx⊢
  cases hx with
  |c x v hx=>
   refine .c _ _ ?_
   have nl: ∀b,ρ id=.row b→ ¬(b9 (upd ρ id .dead) b∨X b):=by
    rintro b hb (⟨j,hj⟩|hxb)
    ·by_cases ej:j=id
     ·subst ej;rw[aW]at hj;cases hj
     ·rw[bI _ _ ej]at hj;exact ej (r.mem.inj j id b hj hb)
    ·exact r.mem.notX hb hxb
   rcases dQ r.mem h2 hx with⟨b,k,ty,n,hb,rfl,⟨cs,ty',hrow,hsz,hcs⟩,hsh,hn,hl',hcap⟩|⟨ad,rfl,rfl,hcap⟩
   ·rw[Nat.zero_mul]
    refine .view none c len es cap b 0 k (fun q=>cs.getD q undef) (fun _ h=>nl b hb h) (fun q hq=> ?_) (fun q hq=> ?_) hz hl' hcap (fun _ h=>by cases h)
    ·have hq':q<cs.size:=by omega
     simp[World.cell?,hrow,Array.getD,hq']
    ·exact CR0.mono (mo.toB.or X) ((hcs q hq).free (eL hf q)) (cA.noIds _)
   ·exact .viewNone none c es cap ad 0 (by omega) hcap (fun _ h=>by cases h) (fun _=>rfl)
 ·have:(s.tmps.set t (.c (.view none c len es cap))).getD u (.tup [])=s.tmps.getD u (.tup []):=by
   rw[List.getD_eq_getElem?_getD,List.getElem?_set_ne (fun h=>e h.symm),←List.getD_eq_getElem?_getD]
  rw[this]
  exact(r.tmps u hu).mono mo
end
section
theorem B0 (v w:List Int):(uF v w).length=v.length:=oX _ _ _
theorem fM (v:List Int) (c:Int):(dW v c).length=v.length:=oX _ _ _
theorem oW {f:Nat→Int} (h: ∀i,fok (f i)=true): ∀k i,aA (gJ f k i)=true
 |0,_=>rfl
 |k+1,i=>by simp only[gJ,aA,List.all_cons,h,Bool.true_and,rpS];exact oW h k (i+1)
theorem KU (v w:List Int):aA (uF v w)=true:=oW (fun i=>c9 _) _ _
theorem mI (v:List Int) (c:Int):aA (dW v c)=true:=oW (fun i=>c9 _) _ _
def C5:aM:=fun args h=>
 match args,h with
 |[.c (.view _ (.ints .i64 v) n 1 _),.c (.view _ (.ints .i64 w) n2 1 _)],[]=>
  some (.c (.view none (.ints .i64 (uF v w)) v.length 1 none),[],[decide (v.length≤274877906944),decide (v.length≤w.length),aA v,aA w])
 |_,_=>none
theorem YT:aS Tryz.prog 270 C5:=by
 intro args h res h' o hnorm he ho
 unfold C5 at he
 split at he
 case h_2=>cases he
 rename_i nl v n cap nl2 w n2 cap2
 simp only[Option.some.injEq,Prod.mk.injEq]at he
 obtain⟨rfl,rfl,rfl⟩:=he
 simp only[List.mem_cons,List.not_mem_nil,or_false,forall_eq_or_imp,forall_eq,decide_eq_true_eq]at ho
 obtain⟨o1,o2,o3,o4⟩:=ho
 simp only[b8,AV.norm,bA,aF.norm,Con.size,List.cons.injEq,AV.c.injEq,AV.agg.injEq,aF.view.injEq,aL,true_and,and_true]at hnorm
 obtain⟨⟨rfl,rfl,rfl⟩,rfl,rfl,rfl⟩:=hnorm
 exact(YS t5 [.c (.view none (.ints .i64 v) v.length 1 none),.c (.view none (.ints .i64 w) w.length 1 none)] [] _ _ _ rfl (by simp[o1,o2,o3,o4])).views (o:=[decide (v.length=(uF v w).length)]) rfl (by simp[B0])
def rT:aM:=fun args h=>
 match args,h with
 |[.c (.view _ (.ints .i64 v) n 1 _),.c (.int .i64 c)],[]=>
  some (.c (.view none (.ints .i64 (dW v c)) v.length 1 none),[],[decide (v.length≤274877906944),aA v,fok c])
 |_,_=>none
theorem YQ:aS Tryz.prog 241 rT:=by
 intro args h res h' o hnorm he ho
 unfold rT at he
 split at he
 case h_2=>cases he
 rename_i nl v n cap c
 simp only[Option.some.injEq,Prod.mk.injEq]at he
 obtain⟨rfl,rfl,rfl⟩:=he
 simp only[List.mem_cons,List.not_mem_nil,or_false,forall_eq_or_imp,forall_eq,decide_eq_true_eq]at ho
 obtain⟨o1,o2,o3⟩:=ho
 simp only[b8,AV.norm,bA,aF.norm,Con.size,List.cons.injEq,AV.c.injEq,AV.agg.injEq,aF.view.injEq,aL,true_and,and_true]at hnorm
 obtain⟨rfl,rfl,rfl⟩:=hnorm
 exact(RQ t5 [.c (.view none (.ints .i64 v) v.length 1 none),.c (.int .i64 c)] [] _ _ _ rfl (by simp[o1,o2,o3])).views (o:=[decide (v.length=(dW v c).length)]) rfl (by simp[fM])
noncomputable def T46:List aZ:=[⟨136,[],nm Q2⟩,⟨270,[],nm C5⟩,⟨241,[],nm rT⟩]++T45
theorem e46:a7 Tryz.prog T46:=by
 refine a7.append ?_ e45
 intro e he
 simp only[List.mem_cons,List.not_mem_nil,or_false]at he
 rcases he with rfl|rfl|rfl
 ·exact m42.ok
 ·exact YT.ok
 ·exact YQ.ok
theorem t46:bK Tryz.prog (a9 T46):=aO e46
theorem VA (v w:List Int):aE tt (a9 T46) ([]) 100 Tryz.f240 [.c (.view none (.ints .i64 v) v.length 1 none),.c (.view none (.ints .i64 w) w.length 1 none)] [] []=
  some ⟨.c (.view none (.ints .i64 (uF v (dW w ((IntKind.i64.wrap (31-(IntKind.i64.wrap (v.getD (aV w).toNat 0*inv (w.getD (aV w).toNat 0))).tmod 31)).tmod 31)))) v.length 1 none),[],(decide (w.length≤274877906944)&&(decide (0≤aV w)&&(decide (aV w<(↑v.length:Int))&&(decide ((aV w).toNat<v.length)&&(decide (0≤aV w)&&(decide (aV w<(↑w.length:Int))&&(decide ((aV w).toNat<w.length)&&(fok (w.getD (aV w).toNat 0)&&(decide (w.length≤274877906944)&&(aA w&&(fok ((IntKind.i64.wrap (31-(IntKind.i64.wrap (v.getD (aV w).toNat 0*inv (w.getD (aV w).toNat 0))).tmod 31)).tmod 31)&&(decide (v.length≤274877906944)&&(decide (v.length≤(dW w ((IntKind.i64.wrap (31-(IntKind.i64.wrap (v.getD (aV w).toNat 0*inv (w.getD (aV w).toNat 0))).tmod 31)).tmod 31)).length)&&(aA v&&((aA (dW w ((IntKind.i64.wrap (31-(IntKind.i64.wrap (v.getD (aV w).toNat 0*inv (w.getD (aV w).toNat 0))).tmod 31)).tmod 31)))&&true))))))))))))))),[]⟩:=by kernel_rfl
def nlC (v w:List Int):Int:=(31-v.getD (aV w).toNat 0*inv (w.getD (aV w).toNat 0)%31)%31
def nlL (v w:List Int):List Int:=uF v (dW w (nlC v w))
theorem oU {v:List Int}: ∀(f i j:Nat),fB v f i=some j→i≤j∧j<i+f
 |0,i,j,h=>by simp[fB]at h
 |f+1,i,j,h=>by
  simp only[fB]at h
  split at h
  ·have:=oU f (i+1) j h;omega
  ·injection h with h;omega
theorem JT (w:List Int):aV w<w.length∨w=[]:=by
 by_cases hw:w=[]
 ·exact .inr hw
 ·refine .inl ?_
  have h0:0<w.length:=List.length_pos_iff.2 hw
  unfold aV
  cases h:kB w with
  |none=>dsimp only;omega
  |some j=>
   have:=oU w.length 0 j h
   dsimp only;omega
theorem MX {v w:List Int} (hv:aA v=true):(IntKind.i64.wrap (31-(IntKind.i64.wrap (v.getD (aV w).toNat 0*inv (w.getD (aV w).toNat 0))).tmod 31)).tmod 31=nlC v w:=by
 have hf:=aT hv (aV w).toNat
 have hi:=rA (w.getD (aV w).toNat 0)
 obtain⟨m1,m2⟩:=kX hf hi
 rw[nZ hf hi,nE m1,cR (by omega) (by omega),nE (by omega)];rfl
def wY:aM:=fun args h=>
 match args,h with
 |[.c (.view _ (.ints .i64 v) n 1 _),.c (.view _ (.ints .i64 w) n2 1 _)],[]=>
  some (.c (.view none (.ints .i64 (nlL v w)) v.length 1 none),[],[decide (v.length≤274877906944),decide (v.length=w.length),aA v,aA w,decide (0≤aV w)])
 |_,_=>none
theorem a7V:aS Tryz.prog 240 wY:=by
 intro args h res h' o hnorm he ho
 unfold wY at he
 split at he
 case h_2=>cases he
 rename_i nl v n cap nl2 w n2 cap2
 simp only[Option.some.injEq,Prod.mk.injEq]at he
 obtain⟨rfl,rfl,rfl⟩:=he
 simp only[List.mem_cons,List.not_mem_nil,or_false,forall_eq_or_imp,forall_eq,decide_eq_true_eq]at ho
 obtain⟨o1,o2,o3,o4,o5⟩:=ho
 simp only[b8,AV.norm,bA,aF.norm,Con.size,List.cons.injEq,AV.c.injEq,AV.agg.injEq,aF.view.injEq,aL,true_and,and_true]at hnorm
 obtain⟨⟨rfl,rfl,rfl⟩,rfl,rfl,rfl⟩:=hnorm
 have hl:=JT w
 have hl':aV w<w.length:=by
  rcases hl with h|h
  ·exact h
  ·subst h;simp[aV,kB,fB]at o5
 have e:=VA v w
 rw[MX o3]at e
 exact mo t46 e (by
  have hc:fok (nlC v w)=true:=c9 _
  simp only[aT o4,hc,o3,o4,mI,fM,Bool.true_and,rpS,Bool.and_true,Bool.and_eq_true,decide_eq_true_eq,true_and,and_true]
  omega)
noncomputable def T47:List aZ:=[⟨240,[],nm wY⟩]++T46
theorem e47:a7 Tryz.prog T47:=by
 refine a7.append ?_ e46
 intro e he
 simp only[List.mem_cons,List.not_mem_nil,or_false]at he
 subst he;exact a7V.ok
theorem t47:bK Tryz.prog (a9 T47):=aO e47
noncomputable abbrev dP:=Tryz.f238
theorem kY (v w:List Int):(nlL v w).length=v.length:=B0 _ _
theorem rC (v w:List Int):aA (nlL v w)=true:=KU _ _
noncomputable def mN (ti:List (List Int)) (v:List Int) (n:Nat) (i:Int):St:=
 aR dP.ntmps [(0,.c (.view none (.ivs .i64 ti) ti.length 1 none)),(1,.c (.view none (.ints .i64 v) n 1 none)),(5,.c (.int .i64 i))] []
noncomputable def EQ (ti:List (List Int)) (v:List Int) (n:Nat):St:=
 aR dP.ntmps [(0,.c (.view none (.ivs .i64 ti) ti.length 1 none)),(1,.c (.view none (.ints .i64 v) n 1 none))] []
theorem SS (ti:List (List Int)) (v:List Int) (n:Nat) (i:Int):aC 0 (a6 dP 0) (a8 dP 0) (aD tt (a9 T47) ([]) 0 100 (a5 0 (a0 dP)) (mN ti v n i) [(0,true)])=
  some (.normal,(decide (i<(↑ti.length:Int))&&(decide (0≤i)&&(decide (i<(↑ti.length:Int))&&(decide (i.toNat<ti.length)&&(decide (v.length≤274877906944)&&(decide (v.length=(ti.getD i.toNat []).length)&&(aA v&&(aA (ti.getD i.toNat [])&&((decide (0≤aV (ti.getD i.toNat [])))&&true))))))))),[],mN ti (nlL v (ti.getD i.toNat [])) (v.length) (IntKind.i64.wrap (i+1))):=by kernel_rfl
theorem ST (ti:List (List Int)) (v:List Int) (n:Nat) (i:Int):aC 0 (a6 dP 0) (a8 dP 0) (aD tt (a9 T47) ([]) 0 100 (a5 0 (a0 dP)) (mN ti v n i) [(0,false)])=
  some (.exit 0,((!decide (i<(↑ti.length:Int)))&&true),[],EQ ti (v) (n)):=by kernel_rfl
noncomputable def lW (ti:List (List Int)) (v:List Int) (n:Nat) (ld:Int) (m:Nat) (out:List (List Int)) (put:Bool) (i:Int):St:=
 aR dP.ntmps [(0,.c (.view none (.ivs .i64 ti) ti.length 1 none)),(1,.c (.view none (.ints .i64 v) n 1 none)),(6,.c (.int .i64 ld)),(7,.c (.sl 0 0 m 1 none)),(8,.c (.bool put)),(9,.c (.int .i64 i))] [.live (.ivs .i64 out)]
noncomputable def HS (v:List Int) (n m:Nat) (out:List (List Int)) (put:Bool):St:=
 aR dP.ntmps [(1,.c (.view none (.ints .i64 v) n 1 none)),(7,.c (.sl 0 0 m 1 none)),(8,.c (.bool put))] [.live (.ivs .i64 out)]
theorem NR (ti:List (List Int)) (v:List Int) (n:Nat) (ld:Int) (m:Nat) (out:List (List Int)) (put:Bool) (i:Int):aC 0 (a6 dP 2) (a8 dP 2) (aD tt (a9 T47) ([]) 0 100 (a5 2 (a0 dP)) (lW ti v n ld m out put i) [(0,true),(0,true),(0,true)])=
  some (.normal,(decide (i<(↑ti.length:Int))&&(rp3 (!put) (decide (0≤i)&&(decide (i<(↑ti.length:Int))&&((!put)&&(decide (i.toNat<ti.length)&&((!put)&&(decide ((ti.getD i.toNat []).length≤274877906944)&&(rp2 (!put) ((bif !put then decide (aV (ti.getD i.toNat [])>ld)else false)&&(decide (m=out.length)&&(decide (m+1≤274877906944)&&(decide (0≤i)&&(decide (i<(↑ti.length:Int))&&(decide (i.toNat<ti.length)&&(decide ((ti.getD i.toNat []).length≤274877906944)&&(decide ((ti.getD i.toNat []).length=v.length)&&(aA (ti.getD i.toNat [])&&(aA v&&(decide (0≤aV v)&&(decide (m+1=(out++[v]).length)&&((decide (m+1+1≤274877906944))&&true)))))))))))))))))))))),[],lW ti v n ld (m+1+1) (out++[v]++[nlL (ti.getD i.toNat []) v]) (true) (IntKind.i64.wrap (i+1))):=by kernel_rfl
theorem NS (ti:List (List Int)) (v:List Int) (n:Nat) (ld:Int) (m:Nat) (out:List (List Int)) (put:Bool) (i:Int):aC 0 (a6 dP 2) (a8 dP 2) (aD tt (a9 T47) ([]) 0 100 (a5 2 (a0 dP)) (lW ti v n ld m out put i) [(0,true),(0,true),(0,false)])=
  some (.normal,(decide (i<(↑ti.length:Int))&&(rp3 (!put) (decide (0≤i)&&(decide (i<(↑ti.length:Int))&&((!put)&&(decide (i.toNat<ti.length)&&((!put)&&(decide ((ti.getD i.toNat []).length≤274877906944)&&(rp2 (!put) ((!bif !put then decide (aV (ti.getD i.toNat [])>ld)else false)&&(decide (0≤i)&&(decide (i<(↑ti.length:Int))&&(decide (i.toNat<ti.length)&&(decide ((ti.getD i.toNat []).length≤274877906944)&&(decide ((ti.getD i.toNat []).length=v.length)&&(aA (ti.getD i.toNat [])&&(aA v&&(decide (0≤aV v)&&(decide (m=out.length)&&((decide (m+1≤274877906944))&&true)))))))))))))))))))),[],lW ti v n ld (m+1) (out++[nlL (ti.getD i.toNat []) v]) (put) (IntKind.i64.wrap (i+1))):=by kernel_rfl
theorem NT (ti:List (List Int)) (v:List Int) (n:Nat) (ld:Int) (m:Nat) (out:List (List Int)) (put:Bool) (i:Int):aC 0 (a6 dP 2) (a8 dP 2) (aD tt (a9 T47) ([]) 0 100 (a5 2 (a0 dP)) (lW ti v n ld m out put i) [(0,true),(0,false)])=
  some (.normal,(decide (i<(↑ti.length:Int))&&(rp8 (!!put) (decide (0≤i)&&(decide (i<(↑ti.length:Int))&&(decide (i.toNat<ti.length)&&(decide ((ti.getD i.toNat []).length≤274877906944)&&(decide ((ti.getD i.toNat []).length=v.length)&&(aA (ti.getD i.toNat [])&&(aA v&&(decide (0≤aV v)&&(decide (m=out.length)&&((decide (m+1≤274877906944))&&true)))))))))))),[],lW ti v n ld (m+1) (out++[nlL (ti.getD i.toNat []) v]) (put) (IntKind.i64.wrap (i+1))):=by kernel_rfl
theorem NU (ti:List (List Int)) (v:List Int) (n:Nat) (ld:Int) (m:Nat) (out:List (List Int)) (put:Bool) (i:Int):aC 0 (a6 dP 2) (a8 dP 2) (aD tt (a9 T47) ([]) 0 100 (a5 2 (a0 dP)) (lW ti v n ld m out put i) [(0,false)])=
  some (.exit 2,((!decide (i<(↑ti.length:Int)))&&true),[],HS v n (m) (out) (put)):=by kernel_rfl
end
section
def PE (L:Nat) (r:List Int):Bool:=decide (r.length=L)&&(aA r&&decide (0≤aV r))
def iQ (L:Nat) (ti:List (List Int)):Bool:=ti.all (PE L)
theorem B3 {L:Nat} {ti:List (List Int)} (h:iQ L ti=true) {i:Nat} (hi:i<ti.length):(ti.getD i []).length=L∧aA (ti.getD i [])=true∧0≤aV (ti.getD i []):=by
 rw[List.getD_eq_getElem?_getD,List.getElem?_eq_getElem hi]
 have:=List.all_eq_true.1 h _ (List.getElem_mem hi)
 simpa only[PE,Bool.and_eq_true,decide_eq_true_eq,Option.getD_some]using this
def FN (ti:List (List Int)) (i:Nat) (v:List Int):List Int:=nlL v (ti.getD i [])
def dJ (ti:List (List Int)) (v:List Int):List Int:=bH (FN ti) ti.length 0 v
theorem NZ {ti:List (List Int)} {v:List Int} (hv:aA v=true):(dJ ti v).length=v.length∧aA (dJ ti v)=true:=
 aY (step:=FN ti) (fun _ x=>x.length=v.length∧aA x=true) _ v ⟨rfl,hv⟩ fun i x _ h=>⟨by rw[FN,kY];exact h.1,rC _ _⟩
theorem a63 (ti:List (List Int)) (v:List Int) (L:Nat) (hL:L≤274877906944) (hn:ti.length≤1000) (ht:iQ L ti=true) (hv:v.length=L) (hf:aA v=true):
  aN none Tryz.prog 0 (.block 0 (.loop (a5 0 (a0 dP)))) (mN ti v v.length 0) fun e t=>e=.normal∧t=EQ ti (dJ ti v) (dJ ti v).length:=by
 refine aN.count (ro:=none) hT t47 bF ti.length (fun _ x=>x.length=L∧aA x=true) (fun i x=>mN ti x x.length i) (fun x=>EQ ti x x.length) (FN ti) (a6 dP 0) (a8 dP 0)
  (fun _ _=>[]) (fun _ _ _ _=>aK.nil) (fun i x hi h=>⟨⟨by rw[FN,kY];exact h.1,rC _ _⟩, ?_⟩) (fun x h=>⟨_,_,⟨_,_,ST ti x x.length ti.length,by simp,by simp⟩⟩) v ⟨hv,hf⟩
 obtain⟨g1,g2,g3⟩:=B3 ht hi
 have e:=SS ti x x.length i
 rw[aB (by omega) (by omega),Int.toNat_natCast]at e
 have hlen:(FN ti i x).length=x.length:=kY _ _
 rw[hlen]
 refine⟨_,_,⟨_,_,e, ?_,by simp⟩⟩
 simp only[h.2,g2,bS,rpS]
 omega
def HW (ti:List (List Int)) (v:List Int) (ld:Int) (i:Nat) (s:List (List Int)×Bool):List (List Int)×Bool:=
 bif !s.2&&decide (aV (ti.getD i [])>ld)then(s.1++[v]++[nlL (ti.getD i []) v],true)else(s.1++[nlL (ti.getD i []) v],s.2)
def lB (ti:List (List Int)) (v:List Int) (ld:Int):List (List Int)×Bool:=bH (HW ti v ld) ti.length 0 ([],false)
theorem Y8 (ti:List (List Int)) (v:List Int) (n L:Nat) (ld:Int) (hL:L≤274877906944) (hn:ti.length≤1000) (ht:iQ L ti=true) (hv:v.length=L) (hf:aA v=true) (h0:0≤aV v):
  aN none Tryz.prog 0 (.block 2 (.loop (a5 2 (a0 dP)))) (lW ti v n ld 0 [] false 0) fun e t=>e=.normal∧t=HS v n (lB ti v ld).1.length (lB ti v ld).1 (lB ti v ld).2:=by
 refine(aN.count (ro:=none) hT t47 bF ti.length (fun i s=>s.1.length≤2*i) (fun i s=>lW ti v n ld s.1.length s.1 s.2 i) (fun s=>HS v n s.1.length s.1 s.2) (HW ti v ld) (a6 dP 2) (a8 dP 2)
  (fun _ _=>[]) (fun _ _ _ _=>aK.nil) (fun i s hi h=> ?_) (fun s h=>⟨_,_,⟨_,_,NU ti v n ld s.1.length s.1 s.2 ti.length,by simp,by simp⟩⟩)) ([],false) (by simp)
 obtain⟨g1,g2,g3⟩:=B3 ht hi
 obtain⟨out,put⟩:=s
 dsimp only at h⊢
 unfold HW
 cases hp:put with
 |true=>
  refine⟨by simp;omega, ?_⟩
  have e:=NT ti v n ld out.length out true i
  rw[aB (by omega) (by omega),Int.toNat_natCast]at e
  simp only[Bool.not_true,Bool.false_and,cond_false,List.length_append,List.length_cons,List.length_nil]
  refine⟨_,_,⟨_,_,e, ?_,by simp⟩⟩
  simp only[hf,g2,h0,bS,rpS]
  omega
 |false=>
  cases hl:decide (aV (ti.getD i [])>ld)with
  |true=>
   refine⟨by simp;omega, ?_⟩
   have e:=NR ti v n ld out.length out false i
   rw[aB (by omega) (by omega),Int.toNat_natCast]at e
   simp only[Bool.not_false,Bool.true_and,rpS,cond_true,List.length_append,List.length_cons,List.length_nil]
   refine⟨_,_,⟨_,_,e, ?_,by simp⟩⟩
   simp only[hl,hf,g2,h0,List.length_append,List.length_cons,List.length_nil,bS,rpS]
   omega
  |false=>
   refine⟨by simp;omega, ?_⟩
   have e:=NS ti v n ld out.length out false i
   rw[aB (by omega) (by omega),Int.toNat_natCast]at e
   simp only[Bool.not_false,Bool.true_and,rpS,cond_false,List.length_append,List.length_cons,List.length_nil]
   refine⟨_,_,⟨_,_,e, ?_,by simp⟩⟩
   simp only[hl,hf,g2,h0,bS,rpS]
   omega
def fC (v:List Int):List Int:=dW v (inv (v.getD (aV v).toNat 0))
def jQ (ti:List (List Int)) (v:List Int):List (List Int):=
 bif decide (aV (dJ ti v)<0)then ti else
  (bif (lB ti (fC (dJ ti v)) (aV (dJ ti v))).2 then(lB ti (fC (dJ ti v)) (aV (dJ ti v))).1 else(lB ti (fC (dJ ti v)) (aV (dJ ti v))).1++[fC (dJ ti v)])
theorem V8 (ti:List (List Int)) (v v':List Int) (out:List (List Int)) (put:Bool):aE tt (a9 T47) ([(0,⟨a6 dP 0,mN ti v v.length 0,.normal,EQ ti v' v'.length⟩),(2,⟨a6 dP 2,lW ti (fC v') v'.length (aV v') 0 [] false 0,.normal,HS (fC v') v'.length out.length out put⟩)]) 100 dP [.c (.view none (.ivs .i64 ti) ti.length 1 none),.c (.view none (.ints .i64 v) v.length 1 none)] [] [(0,false),(0,true)]=
  some ⟨.c (.sl 0 0 (out.length+1) 1 none),[.live (.ivs .i64 (out++[fC v']))],(decide (v'.length≤274877906944)&&(!decide (aV v'<0)&&(decide (0≤aV v')&&(decide (aV v'<(↑v'.length:Int))&&(decide ((aV v').toNat<v'.length)&&(fok (v'.getD (aV v').toNat 0)&&(decide (v'.length≤274877906944)&&(aA v'&&(fok (inv (v'.getD (aV v').toNat 0))&&((!put)&&(decide (out.length=out.length)&&((decide (out.length+1≤274877906944))&&true)))))))))))),[mN ti v v.length 0=mN ti v v.length 0,lW ti (fC v') v'.length (aV v') 0 [] false 0=lW ti (fC v') v'.length (aV v') 0 [] false 0]⟩:=by kernel_rfl
theorem V9 (ti:List (List Int)) (v v':List Int) (out:List (List Int)) (put:Bool):aE tt (a9 T47) ([(0,⟨a6 dP 0,mN ti v v.length 0,.normal,EQ ti v' v'.length⟩),(2,⟨a6 dP 2,lW ti (fC v') v'.length (aV v') 0 [] false 0,.normal,HS (fC v') v'.length out.length out put⟩)]) 100 dP [.c (.view none (.ivs .i64 ti) ti.length 1 none),.c (.view none (.ints .i64 v) v.length 1 none)] [] [(0,false),(0,false)]=
  some ⟨.c (.sl 0 0 out.length 1 none),[.live (.ivs .i64 out)],(decide (v'.length≤274877906944)&&(!decide (aV v'<0)&&(decide (0≤aV v')&&(decide (aV v'<(↑v'.length:Int))&&(decide ((aV v').toNat<v'.length)&&(fok (v'.getD (aV v').toNat 0)&&(decide (v'.length≤274877906944)&&(aA v'&&(fok (inv (v'.getD (aV v').toNat 0))&&((!!put)&&true)))))))))),[mN ti v v.length 0=mN ti v v.length 0,lW ti (fC v') v'.length (aV v') 0 [] false 0=lW ti (fC v') v'.length (aV v') 0 [] false 0]⟩:=by kernel_rfl
theorem OZ (ti:List (List Int)) (v v':List Int):aE tt (a9 T47) ([(0,⟨a6 dP 0,mN ti v v.length 0,.normal,EQ ti v' v'.length⟩)]) 100 dP [.c (.view none (.ivs .i64 ti) ti.length 1 none),.c (.view none (.ints .i64 v) v.length 1 none)] [] [(0,true)]=
  some ⟨.c (.view none (.ivs .i64 ti) ti.length 1 none),[],(decide (v'.length≤274877906944)&&((decide (aV v'<0))&&true)),[mN ti v v.length 0=mN ti v v.length 0]⟩:=by kernel_rfl
theorem pY {v:List Int}: ∀(f i:Nat),fB v f i=none→ ∀k,i≤k→k<i+f→v.getD k 0=0
 |0,i,h,k,h1,h2=>by omega
 |f+1,i,h,k,h1,h2=>by
  simp only[fB]at h
  split at h
  ·rename_i hz
   by_cases e:k=i
   ·subst e;exact hz
   ·exact pY f (i+1) h k (by omega) (by omega)
  ·cases h
theorem w4 {v:List Int}: ∀(f i j:Nat),fB v f i=some j→v.getD j 0≠0
 |0,i,j,h=>by simp[fB]at h
 |f+1,i,j,h=>by
  simp only[fB]at h
  split at h
  ·exact w4 f (i+1) j h
  ·rename_i hz
   injection h with h;subst h;exact hz
theorem y0 {v:List Int} {i:Nat} (hi:i<v.length) (h:v.getD i 0≠0):0≤aV v:=by
 unfold aV
 cases hl:kB v with
 |some j=>dsimp only;omega
 |none=>exact absurd (pY v.length 0 hl i (by omega) (by omega)) h
theorem zZ {v:List Int} (h:0≤aV v):(aV v).toNat<v.length∧v.getD (aV v).toNat 0≠0:=by
 unfold aV at h⊢
 cases hl:kB v with
 |some j=>
  dsimp only
  rw[Int.toNat_natCast]
  have:=oU v.length 0 j hl
  exact⟨by omega,w4 _ _ _ hl⟩
 |none=>rw[hl]at h;simp at h
theorem DD {v:List Int} {c:Int} {i:Nat} (hi:i<v.length):(dW v c).getD i 0=v.getD i 0*c%31:=by
 have gen: ∀(k j i:Nat),i<k→(gJ (pD v c) k j).getD i 0=pD v c (j+i):=by
  intro k
  induction k with
  |zero=>intro j i h;omega
  |succ k ih=>
   intro j i h
   simp only[gJ]
   cases i with
   |zero=>simp
   |succ i=>rw[List.getD_cons_succ,ih (j+1) i (by omega)];congr 1;omega
 have:=gen v.length 0 i hi
 rw[Nat.zero_add]at this;exact this
theorem FJ {v:List Int} (hf:aA v=true) (h:0≤aV v):0≤aV (fC v):=by
 obtain⟨h1,h2⟩:=zZ h
 refine y0 (i:=(aV v).toNat) (by unfold fC;rw[fM];exact h1) ?_
 unfold fC
 rw[DD h1,nA (aT hf _) h2];decide
theorem HV (ti:List (List Int)) (v:List Int) (ld:Int):(lB ti v ld).1.length≤2*ti.length:=
 aY (step:=HW ti v ld) (fun i s=>s.1.length≤2*i) ti.length ([],false) (by simp) fun i s _ h=>by
  unfold HW
  cases !s.2&&decide (aV (ti.getD i [])>ld)
  ·simp;omega
  ·simp;omega
def GI:aM:=fun args h=>
 match args,h with
 |[.c (.view _ (.ivs .i64 ti) n 1 _),.c (.view _ (.ints .i64 v) n2 1 _)],[]=>
  some (.c (.view none (.ivs .i64 (jQ ti v)) (jQ ti v).length 1 none),[],[decide (v.length≤274877906944),decide (ti.length≤1000),iQ v.length ti,aA v])
 |_,_=>none
theorem a7T:aS Tryz.prog 238 GI:=by
 intro args h res h' o hnorm he ho
 unfold GI at he
 split at he
 case h_2=>cases he
 rename_i nl ti n cap nl2 v n2 cap2
 simp only[Option.some.injEq,Prod.mk.injEq]at he
 obtain⟨rfl,rfl,rfl⟩:=he
 simp only[List.mem_cons,List.not_mem_nil,or_false,forall_eq_or_imp,forall_eq,decide_eq_true_eq]at ho
 obtain⟨o1,o2,o3,o4⟩:=ho
 simp only[b8,AV.norm,bA,aF.norm,Con.size,List.cons.injEq,AV.c.injEq,AV.agg.injEq,aF.view.injEq,aL,true_and,and_true]at hnorm
 obtain⟨⟨rfl,rfl,rfl⟩,rfl,rfl,rfl⟩:=hnorm
 obtain⟨r1,r2⟩:=NZ (ti:=ti) o4
 have g1:=a63 ti v v.length o1 o2 o3 rfl o4
 unfold jQ
 cases hl:decide (aV (dJ ti v)<0)with
 |true=>
  exact mo (fn:=dP) t47 (OZ ti v (dJ ti v)) (by simp only[hl,bS,rpS];omega) (hlc:=(fun cc hcc=>aK.cons (c:=cc) (by cases hcc;kernel_rfl) (by cases hcc;exact g1) aK.nil))
 |false=>
  have h0:0≤aV (dJ ti v):=by simpa using hl
  obtain⟨z1,z2⟩:=zZ h0
  have g2:=Y8 ti (fC (dJ ti v)) (dJ ti v).length v.length (aV (dJ ti v)) o1 o2 o3 (by unfold fC;rw[fM];exact r1) (mI _ _) (FJ r2 h0)
  have hlen:=HV ti (fC (dJ ti v)) (aV (dJ ti v))
  cases hp:(lB ti (fC (dJ ti v)) (aV (dJ ti v))).2 with
  |true=>
   have e:=V9 ti v (dJ ti v) (lB ti (fC (dJ ti v)) (aV (dJ ti v))).1 (lB ti (fC (dJ ti v)) (aV (dJ ti v))).2
   have mm:=mo (f:=238) (fn:=dP) t47 e (by simp only[hl,hp,r2,aT r2,rA,bS,rpS];omega) (hlc:=(fun cc hcc=>aK.cons (c:=cc) (by cases hcc;kernel_rfl) (by cases hcc;exact g1) (aK.cons (by cases hcc;kernel_rfl) (by cases hcc;exact g2) aK.nil)))
   exact mm.views (o:=[decide ((lB ti (fC (dJ ti v)) (aV (dJ ti v))).1.length=(lB ti (fC (dJ ti v)) (aV (dJ ti v))).1.length)]) rfl (by simp)
  |false=>
   have e:=V8 ti v (dJ ti v) (lB ti (fC (dJ ti v)) (aV (dJ ti v))).1 (lB ti (fC (dJ ti v)) (aV (dJ ti v))).2
   have mm:=mo (f:=238) (fn:=dP) t47 e (by simp only[hl,hp,r2,aT r2,rA,bS,rpS];omega) (hlc:=(fun cc hcc=>aK.cons (c:=cc) (by cases hcc;kernel_rfl) (by cases hcc;exact g1) (aK.cons (by cases hcc;kernel_rfl) (by cases hcc;exact g2) aK.nil)))
   have:=mm.views (o:=[decide ((lB ti (fC (dJ ti v)) (aV (dJ ti v))).1.length+1=((lB ti (fC (dJ ti v)) (aV (dJ ti v))).1++[fC (dJ ti v)]).length)]) rfl (by simp)
   rw[cond_false,cond_false,List.length_append]
   exact this
end
section
noncomputable def T48:List aZ:=[⟨238,[],nm GI⟩]++T47
theorem e48:a7 Tryz.prog T48:=by
 refine a7.append ?_ e47
 intro e he
 simp only[List.mem_cons,List.not_mem_nil,or_false]at he
 subst he;exact a7T.ok
theorem t48:bK Tryz.prog (a9 T48):=aO e48
noncomputable abbrev f134:=Tryz.f205
noncomputable def HG (m out:List (List Int)) (n:Nat) (i:Int):St:=
 aR f134.ntmps [(0,.c (.view none (.ivs .i64 m) m.length 1 none)),(3,.c (.view none (.ivs .i64 out) n 1 none)),(4,.c (.int .i64 i))] []
noncomputable def LG (out:List (List Int)) (n:Nat):St:=aR f134.ntmps [(3,.c (.view none (.ivs .i64 out) n 1 none))] []
theorem SC (m out:List (List Int)) (n:Nat) (i:Int):aC 0 (a6 f134 0) (a8 f134 0) (aD tt (a9 T48) ([]) 0 100 (a5 0 (a0 f134)) (HG m out n i) [(0,true)])=
  some (.normal,(decide (i<(↑m.length:Int))&&(decide (0≤i)&&(decide (i<(↑m.length:Int))&&(decide (i.toNat<m.length)&&(decide ((m.getD i.toNat []).length≤274877906944)&&(decide (out.length≤1000)&&(iQ (m.getD i.toNat []).length out&&((aA (m.getD i.toNat []))&&true)))))))),[],HG m (jQ out (m.getD i.toNat [])) ((jQ out (m.getD i.toNat [])).length) (IntKind.i64.wrap (i+1))):=by kernel_rfl
theorem SD (m out:List (List Int)) (n:Nat) (i:Int):aC 0 (a6 f134 0) (a8 f134 0) (aD tt (a9 T48) ([]) 0 100 (a5 0 (a0 f134)) (HG m out n i) [(0,false)])=
  some (.exit 0,((!decide (i<(↑m.length:Int)))&&true),[],LG (out) (n)):=by kernel_rfl
def gQ (m:List (List Int)) (i:Nat) (out:List (List Int)):List (List Int):=jQ out (m.getD i [])
def cJ (m:List (List Int)):List (List Int):=bH (gQ m) m.length 0 []
def d5 (m:List (List Int)):Nat→Nat→List (List Int)→Bool
 |0,_,_=>true
 |f+1,i,out=>(decide ((m.getD i []).length≤274877906944)&&(decide (out.length≤1000)&&(iQ (m.getD i []).length out&&aA (m.getD i []))))&&d5 m f (i+1) (gQ m i out)
def eJ (m:List (List Int)):Bool:=d5 m m.length 0 []
noncomputable def CC (m:List (List Int)):St:=
 aR f134.ntmps [(0,.c (.view none (.ivs .i64 m) m.length 1 none)),(3,.c (.sl 0 0 0 1 none)),(4,.c (.int .i64 0))] [.live (.ivs .i64 [])]
theorem a5X (m:List (List Int)) (hm:m.length≤274877906944) (ht:eJ m=true):
  aN none Tryz.prog 0 (.block 0 (.loop (a5 0 (a0 f134)))) (CC m) fun e t=>e=.normal∧t=LG (cJ m) (cJ m).length:=by
 have g:=aN.count (ro:=none) hT t48 bF (m:=0) (id:=0) (body:=a5 0 (a0 f134)) m.length (fun i out=>d5 m (m.length-i) i out=true) (fun i out=>HG m out out.length i) (fun out=>LG out out.length) (gQ m) (a6 f134 0) (a8 f134 0)
  (fun _ _=>[]) (fun _ _ _ _=>aK.nil) (fun i out hi h=> ?_) (fun out h=>⟨_,_,⟨_,_,SD m out out.length m.length,by simp,by simp⟩⟩) [] ht
 ·have e:fit 0 (a6 f134 0) ⟨(CC m).tmps.set 3 (.c (.view none (.ivs .i64 []) 0 1 none)),(CC m).heap.set 0 .dead⟩=HG m [] 0 0:=by kernel_rfl
  have w:=(f8.froz 0 3 0 (s:=CC m) (len:=0) (es:=1) (cap:=none) (c:=.ivs .i64 []) rfl rfl rfl rfl).trans (f8.fit 0 (a6 f134 0) _)
  rw[e]at w
  exact g.pre w
 ·rw[show m.length-i=(m.length-(i+1))+1 from by omega]at h
  simp only[d5,Bool.and_eq_true,rpS,decide_eq_true_eq]at h
  obtain⟨⟨h1,h2,h3,h4⟩,h5⟩:=h
  refine⟨h5, ?_⟩
  have e:=SC m out out.length i
  rw[aB (by omega) (by omega),Int.toNat_natCast]at e
  refine⟨_,_,⟨_,_,e, ?_,by simp⟩⟩
  simp only[h1,h2,h3,h4,decide_true,rpS,bS]
  omega
theorem V0 (m:List (List Int)):aE tt (a9 T48) ([(0,⟨a6 f134 0,CC m,.normal,LG (cJ m) (cJ m).length⟩)]) 100 f134 [.c (.view none (.ivs .i64 m) m.length 1 none)] [] []=
  some ⟨.c (.view none (.ivs .i64 (cJ m)) (cJ m).length 1 none),[],true,[CC m=CC m]⟩:=by kernel_rfl
def C6:aM:=fun args h=>
 match args,h with
 |[.c (.view _ (.ivs .i64 m) n 1 _)],[]=>
  some (.c (.view none (.ivs .i64 (cJ m)) (cJ m).length 1 none),[],[decide (m.length≤274877906944),eJ m])
 |_,_=>none
theorem a7D:aS Tryz.prog 205 C6:=by
 intro args h res h' o hnorm he ho
 unfold C6 at he
 split at he
 case h_2=>cases he
 rename_i nl m n cap
 simp only[Option.some.injEq,Prod.mk.injEq]at he
 obtain⟨rfl,rfl,rfl⟩:=he
 simp only[List.mem_cons,List.not_mem_nil,or_false,forall_eq_or_imp,forall_eq,decide_eq_true_eq]at ho
 obtain⟨o1,o2⟩:=ho
 simp only[b8,AV.norm,bA,aF.norm,Con.size,List.cons.injEq,AV.c.injEq,AV.agg.injEq,aF.view.injEq,aL,true_and,and_true]at hnorm
 obtain⟨rfl,rfl,rfl⟩:=hnorm
 exact mo (fn:=f134) t48 (V0 m) (by simp) (hlc:=(fun cc hcc=>aK.cons (c:=cc) (by cases hcc;kernel_rfl) (by cases hcc;exact a5X m o1 o2) aK.nil))
noncomputable def T49:List aZ:=[⟨205,[],nm C6⟩]++T48
theorem e49:a7 Tryz.prog T49:=by
 refine a7.append ?_ e48
 intro e he
 simp only[List.mem_cons,List.not_mem_nil,or_false]at he
 subst he;exact a7D.ok
theorem t49:bK Tryz.prog (a9 T49):=aO e49
theorem UX (m:List (List Int)) (v:List Int):aE tt (a9 T49) ([]) 100 Tryz.f203 [.c (.view none (.ivs .i64 m) m.length 1 none),.c (.view none (.ints .i64 v) v.length 1 none)] [] []=
  some ⟨.c (.bool ((↑(jQ (cJ m) v).length:Int)==(↑(cJ m).length:Int))),[],(decide (m.length≤274877906944)&&(eJ m&&(decide (v.length≤274877906944)&&(decide ((cJ m).length≤1000)&&(iQ v.length (cJ m)&&((aA v)&&true)))))),[]⟩:=by kernel_rfl
noncomputable abbrev f135:=Tryz.f206
noncomputable def uQ (k:Int) (c:List Bool) (n:Nat) (out:List (List Int)) (i:Int):St:=
 aR f135.ntmps [(0,.c (.int .i64 k)),(1,.c (.view none (.bools c) c.length 1 none)),(5,.c (.sl 0 0 n 1 none)),(6,.c (.int .i64 i))] [.live (.ivs .i64 out)]
noncomputable def LH (n:Nat) (out:List (List Int)):St:=aR f135.ntmps [(5,.c (.sl 0 0 n 1 none))] [.live (.ivs .i64 out)]
theorem SE (k:Int) (c:List Bool) (n:Nat) (out:List (List Int)) (i:Int):aC 0 (a6 f135 0) (a8 f135 0) (aD tt (a9 T49) ([]) 0 100 (a5 0 (a0 f135)) (uQ k c n out i) [(0,true),(0,true)])=
  some (.normal,(decide (i<8)&&(decide (0≤i)&&(decide (i<(↑c.length:Int))&&(decide (i.toNat<c.length)&&((c.getD i.toNat false)&&(bet k 1 2&&(bet i 0 7&&(decide (n=out.length)&&((decide (n+1≤274877906944))&&true))))))))),[],uQ k c (n+1) (out++[aH k i]) (IntKind.i64.wrap (i+1))):=by kernel_rfl
theorem SF (k:Int) (c:List Bool) (n:Nat) (out:List (List Int)) (i:Int):aC 0 (a6 f135 0) (a8 f135 0) (aD tt (a9 T49) ([]) 0 100 (a5 0 (a0 f135)) (uQ k c n out i) [(0,true),(0,false)])=
  some (.normal,(decide (i<8)&&(decide (0≤i)&&(decide (i<(↑c.length:Int))&&(decide (i.toNat<c.length)&&((!c.getD i.toNat false)&&true))))),[],uQ k c (n) (out) (IntKind.i64.wrap (i+1))):=by kernel_rfl
theorem SG (k:Int) (c:List Bool) (n:Nat) (out:List (List Int)) (i:Int):aC 0 (a6 f135 0) (a8 f135 0) (aD tt (a9 T49) ([]) 0 100 (a5 0 (a0 f135)) (uQ k c n out i) [(0,false)])=
  some (.exit 0,((!decide (i<8))&&true),[],LH (n) (out)):=by kernel_rfl
noncomputable abbrev f62:=Tryz.f114
noncomputable def I62 (k:Int) (v:List Int) (n:Nat) (out:List Int) (i:Int):St:=
 aR f62.ntmps [(0,.c (.int .i64 k)),(1,.c (.view none (.ints .i64 v) v.length 1 none)),(5,.c (.sl 0 0 n 1 none)),(6,.c (.int .i64 i))] [.live (.ints .i64 out)]
noncomputable def X62 (n:Nat) (out:List Int):St:=aR f62.ntmps [(5,.c (.sl 0 0 n 1 none))] [.live (.ints .i64 out)]
theorem ZU (k:Int) (v:List Int) (n:Nat) (out:List Int) (i:Int):aC 0 (a6 f62 0) (a8 f62 0) (aD tt (a9 T49) ([]) 0 100 (a5 0 (a0 f62)) (I62 k v n out i) [(0,true)])=
  some (.normal,(decide (i<8)&&(bet k 1 2&&(bet i 0 7&&(decide ((aH k i).length≤274877906944)&&(decide ((aH k i).length≤v.length)&&(aA (aH k i)&&(aA v&&(decide (n=out.length)&&((decide (n+1≤274877906944))&&true))))))))),[],I62 k v (n+1) (out++[aP (aH k i) v]) (IntKind.i64.wrap (i+1))):=by kernel_rfl
theorem ZV (k:Int) (v:List Int) (n:Nat) (out:List Int) (i:Int):aC 0 (a6 f62 0) (a8 f62 0) (aD tt (a9 T49) ([]) 0 100 (a5 0 (a0 f62)) (I62 k v n out i) [(0,false)])=
  some (.exit 0,((!decide (i<8))&&true),[],X62 (n) (out)):=by kernel_rfl
end
end Go.Proofs.YtdnfojanjejdgaaGreat.Am
