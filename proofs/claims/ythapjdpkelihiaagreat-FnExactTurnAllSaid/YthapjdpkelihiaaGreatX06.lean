/- DERIVED. Part 6 of the proof: C34, C35, C36, C37, C38, C39, Am32, C41. No statement of the program is proved here. -/
import Derived.Test.YthapjdpkelihiaaGreatX05
set_option linter.unusedSimpArgs false
set_option linter.unusedVariables false
set_option linter.unusedSectionVars false
section
namespace Go.Proofs.YthapjdpkelihiaaGreat.Am
def FFidxS:Model:=fun args h=>
 match args,h with
 |[.c (.sl 0 0 n 1 none),.c (.fn 134 [.ptr 1 0 0 0])],[.live (.ints .i64 v),.live (.cells [.int .i64 k,.view nl1 (.ints .i64 a) n1 1 cap1,.view nl2 (.ints .i64 b) n2 1 cap2,.view nl3 (.bools c) n3 1 cap3])]=>
  some (.c (.int .i64 (idxL (fun x=> !fitsL k a (ofL b c x)) v)),[.live (.ints .i64 v),.live (.cells [.int .i64 k,.view nl1 (.ints .i64 a) n1 1 cap1,.view nl2 (.ints .i64 b) n2 1 cap2,.view nl3 (.bools c) n3 1 cap3])],[decide (v.length≤274877906944),decide (v.length=n),decide (c.length=8),decide (b.length=8),bet k 1 2,decide (a.length=8),allFok a])
 |_,_=>none
theorem x146s_1 (k:Int) (n1 n2 n3:Nat) (nl1 nl2 nl3:Option Bool) (cap1 cap2 cap3:Option Nat) (a b:List Int) (c:List Bool) (v:List Int):evalF tt (ctOf T37) ([(0,⟨liveH f146s 0,I146s k n1 n2 n3 nl1 nl2 nl3 cap1 cap2 cap3 a b c v 0,.normal,X146s k n1 n2 n3 nl1 nl2 nl3 cap1 cap2 cap3 a b c v⟩)]) 100 f146s [.c (.sl 0 0 v.length 1 none),.c (.fn 134 [.ptr 1 0 0 0])] [.live (.ints .i64 v),.live (.cells [.int .i64 k,.view nl1 (.ints .i64 a) n1 1 cap1,.view nl2 (.ints .i64 b) n2 1 cap2,.view nl3 (.bools c) n3 1 cap3])] []=
  some ⟨.c (.int .i64 (-1)),[.live (.ints .i64 v),.live (.cells [.int .i64 k,.view nl1 (.ints .i64 a) n1 1 cap1,.view nl2 (.ints .i64 b) n2 1 cap2,.view nl3 (.bools c) n3 1 cap3])],true,[I146s k n1 n2 n3 nl1 nl2 nl3 cap1 cap2 cap3 a b c v 0=I146s k n1 n2 n3 nl1 nl2 nl3 cap1 cap2 cap3 a b c v 0]⟩:=by kernel_rfl
theorem x146t_1 (k:Int) (n1 n2 n3:Nat) (nl1 nl2 nl3:Option Bool) (cap1 cap2 cap3:Option Nat) (a b:List Int) (c:List Bool) (v:List Int) (j:Nat):evalF tt (ctOf T37) ([(0,⟨liveH f146s 0,I146s k n1 n2 n3 nl1 nl2 nl3 cap1 cap2 cap3 a b c v 0,.ret,Y146s k n1 n2 n3 nl1 nl2 nl3 cap1 cap2 cap3 a b c v j⟩)]) 100 f146s [.c (.sl 0 0 v.length 1 none),.c (.fn 134 [.ptr 1 0 0 0])] [.live (.ints .i64 v),.live (.cells [.int .i64 k,.view nl1 (.ints .i64 a) n1 1 cap1,.view nl2 (.ints .i64 b) n2 1 cap2,.view nl3 (.bools c) n3 1 cap3])] []=
  some ⟨.c (.int .i64 (↑j:Int)),[.live (.ints .i64 v),.live (.cells [.int .i64 k,.view nl1 (.ints .i64 a) n1 1 cap1,.view nl2 (.ints .i64 b) n2 1 cap2,.view nl3 (.bools c) n3 1 cap3])],true,[I146s k n1 n2 n3 nl1 nl2 nl3 cap1 cap2 cap3 a b c v 0=I146s k n1 n2 n3 nl1 nl2 nl3 cap1 cap2 cap3 a b c v 0]⟩:=by kernel_rfl
theorem m146s:ModelOk Tryz.prog 176 FFidxS:=by
 intro args h res h' o he ho
 unfold FFidxS at he
 split at he
 case h_2=>cases he
 rename_i n v k nl1 a n1 cap1 nl2 b n2 cap2 nl3 c n3 cap3
 simp only[Option.some.injEq,Prod.mk.injEq]at he
 obtain⟨rfl,rfl,rfl⟩:=he
 simp only[List.mem_cons,List.not_mem_nil,or_false,forall_eq_or_imp,forall_eq,decide_eq_true_eq]at ho
 obtain⟨o1,o2,o3,o4,o5,o6,o7⟩:=ho
 subst o2
 have g:=l146s k n1 n2 n3 nl1 nl2 nl3 cap1 cap2 cap3 a b c v o1 (by omega) (by omega) o5 o6 o7 (fun i hi=>⟨(of_shard o3).2,(of_shard o3).1,solOk_of o5 o3⟩)
 unfold idxL
 cases hx:idxO (fun x=> !fitsL k a (ofL b c x)) v with
 |none=>
  rw[hx]at g
  exact meets_of t37 (fn:=f146s) (by kernel_rfl) (by kernel_rfl) (x146s_1 k n1 n2 n3 nl1 nl2 nl3 cap1 cap2 cap3 a b c v) rfl (by simp) (fun cc hc=>LcOk.cons (c:=cc) (by cases hc;kernel_rfl) (by cases hc;exact g) LcOk.nil)
 |some j=>
  rw[hx]at g
  exact meets_of t37 (fn:=f146s) (by kernel_rfl) (by kernel_rfl) (x146t_1 k n1 n2 n3 nl1 nl2 nl3 cap1 cap2 cap3 a b c v j) rfl (by simp) (fun cc hc=>LcOk.cons (c:=cc) (by cases hc;kernel_rfl) (by cases hc;exact g) LcOk.nil)
noncomputable def T38:List Entry:=[⟨176,[0,1],FFidxS⟩]++T37
theorem e38:EntriesOk Tryz.prog T38:=by
 refine EntriesOk.append ?_ e37
 intro e he
 simp only[List.mem_cons,List.not_mem_nil,or_false]at he
 subst he;exact m146s
theorem t38:CtOk Tryz.prog (ctOf T38):=ctOf_ok e38
theorem x119s_1 (k:Int) (n1 n2 n3:Nat) (nl1 nl2 nl3:Option Bool) (cap1 cap2 cap3:Option Nat) (a b:List Int) (c:List Bool) (v:List Int):evalF tt (ctOf T38) ([]) 100 Tryz.f133 [.c (.sl 0 0 v.length 1 none),.c (.fn 134 [.ptr 1 0 0 0])] [.live (.ints .i64 v),.live (.cells [.int .i64 k,.view nl1 (.ints .i64 a) n1 1 cap1,.view nl2 (.ints .i64 b) n2 1 cap2,.view nl3 (.bools c) n3 1 cap3])] []=
  some ⟨.c (.bool (decide (idxL (fun x=> !fitsL k a (ofL b c x)) v≥0))),[.live (.ints .i64 v),.live (.cells [.int .i64 k,.view nl1 (.ints .i64 a) n1 1 cap1,.view nl2 (.ints .i64 b) n2 1 cap2,.view nl3 (.bools c) n3 1 cap3])],(decide (v.length≤274877906944)&&(decide (v.length=v.length)&&(decide (c.length=8)&&(decide (b.length=8)&&(bet k 1 2&&(decide (a.length=8)&&((allFok a)&&true))))))),[]⟩:=by kernel_rfl
theorem idxL_all (q:Int→Bool) (v:List Int):decide (idxL (fun x=> !q x) v≥0)= !v.all q:=by
 unfold idxL
 cases h:idxO (fun x=> !q x) v with
 |none=>
  have:=idxAt_none h
  have ha:v.all q=true:=by
   rw[List.all_eq_true]
   intro x hx
   obtain⟨i,hi⟩:=List.getElem?_of_mem hx
   have hlt:=(List.getElem?_eq_some_iff.1 hi).1
   have h1:=this i (by omega) (by omega)
   rw[List.getD_eq_getElem?_getD,hi]at h1
   simpa using h1
  rw[ha];decide
 |some j=>
  obtain⟨h1,h2,h3,h4⟩:=idxAt_some h
  have ha:v.all q=false:=by
   rw[List.all_eq_false]
   refine⟨v.getD j 0, ?_,by simpa using h3⟩
   rw[List.getD_eq_getElem?_getD,List.getElem?_eq_getElem (by omega)]
   exact List.getElem_mem _
  rw[ha]
  dsimp only
  simp
def FFconS:Model:=fun args h=>
 match args,h with
 |[.c (.sl 0 0 n 1 none),.c (.fn 134 [.ptr 1 0 0 0])],[.live (.ints .i64 v),.live (.cells [.int .i64 k,.view nl1 (.ints .i64 a) n1 1 cap1,.view nl2 (.ints .i64 b) n2 1 cap2,.view nl3 (.bools c) n3 1 cap3])]=>
  some (.c (.bool (!v.all fun x=>fitsL k a (ofL b c x))),[.live (.ints .i64 v),.live (.cells [.int .i64 k,.view nl1 (.ints .i64 a) n1 1 cap1,.view nl2 (.ints .i64 b) n2 1 cap2,.view nl3 (.bools c) n3 1 cap3])],[decide (v.length≤274877906944),decide (v.length=n),decide (c.length=8),decide (b.length=8),bet k 1 2,decide (a.length=8),allFok a])
 |_,_=>none
theorem m119s:ModelOk Tryz.prog 133 FFconS:=by
 intro args h res h' o he ho
 unfold FFconS at he
 split at he
 case h_2=>cases he
 rename_i n v k nl1 a n1 cap1 nl2 b n2 cap2 nl3 c n3 cap3
 simp only[Option.some.injEq,Prod.mk.injEq]at he
 obtain⟨rfl,rfl,rfl⟩:=he
 simp only[List.mem_cons,List.not_mem_nil,or_false,forall_eq_or_imp,forall_eq,decide_eq_true_eq]at ho
 obtain⟨o1,o2,o3,o4,o5,o6,o7⟩:=ho
 subst o2
 have e:=x119s_1 k n1 n2 n3 nl1 nl2 nl3 cap1 cap2 cap3 a b c v
 rw[idxL_all (fun x=>fitsL k a (ofL b c x))]at e
 exact meets_of t38 (by kernel_rfl) (by kernel_rfl) e (by simp[o1,o3,o4,o5,o6,o7]) (by simp) (fun c _=>LcOk.nil)
noncomputable def T39:List Entry:=[⟨133,[0,1],FFconS⟩]++T38
theorem e39:EntriesOk Tryz.prog T39:=by
 refine EntriesOk.append ?_ e38
 intro e he
 simp only[List.mem_cons,List.not_mem_nil,or_false]at he
 subst he;exact m119s
theorem t39:CtOk Tryz.prog (ctOf T39):=ctOf_ok e39
noncomputable abbrev f72:=Tryz.f83
end Go.Proofs.YthapjdpkelihiaaGreat.Am
end
section
namespace Go.Proofs.YthapjdpkelihiaaGreat.Am
noncomputable def I72 (k:Int) (a b:List Int) (c:List Bool) (i:Int):St:=
  stOf f72.ntmps [(1,.c (.ptr 0 0 0 0)),(15,.c (.view none (.bools c) c.length 1 none)),(16,.c (.int .i64 c.length)),(17,.c (.int .i64 i))]
   [.live (.cells [.int .i64 k,.view none (.ints .i64 a) a.length 1 none,.view none (.ints .i64 b) b.length 1 none,.view none (.bools c) c.length 1 none])]
noncomputable def X72 (k:Int) (a b:List Int) (c:List Bool):St:=
  stOf f72.ntmps [(1,.c (.ptr 0 0 0 0))]
   [.live (.cells [.int .i64 k,.view none (.ints .i64 a) a.length 1 none,.view none (.ints .i64 b) b.length 1 none,.view none (.bools c) c.length 1 none])]
noncomputable def Y72 (k:Int) (a b:List Int) (c:List Bool):St:=
  stOf f72.ntmps [(1,.c (.ptr 0 0 0 0)),(2,.c (.bool false))]
   [.live (.cells [.int .i64 k,.view none (.ints .i64 a) a.length 1 none,.view none (.ints .i64 b) b.length 1 none,.view none (.bools c) c.length 1 none])]
theorem r72_1 (k:Int) (a b:List Int) (c:List Bool) (i:Int):roundR 0 (liveH f72 0) (liveB' f72 0) (evalC tt (ctOf T39) ([]) 0 100 (bodyAt 0 (codeOf f72)) (I72 k a b c i) [(0,true),(0,true),(0,true),(0,true)])=
  some (.ret,(decide (i<(↑c.length:Int))&&(decide (0≤i)&&(decide (i<(↑c.length:Int))&&(decide (i.toNat<c.length)&&((c.getD i.toNat false)&&((c.getD i.toNat false)&&((c.getD i.toNat false)&&((c.getD i.toNat false)&&(decide (0≤i)&&(decide (i<(↑a.length:Int))&&((c.getD i.toNat false)&&(decide (i.toNat<a.length)&&((c.getD i.toNat false)&&((c.getD i.toNat false)&&((c.getD i.toNat false)&&(!fok (a.getD i.toNat 0)&&(!fok (a.getD i.toNat 0)&&(!fok (a.getD i.toNat 0)&&(!fok (a.getD i.toNat 0)&&(!fok (a.getD i.toNat 0)&&(!fok (a.getD i.toNat 0)&&(!fok (a.getD i.toNat 0)&&((c.getD i.toNat false)&&(!fok (a.getD i.toNat 0)&&((bif c.getD i.toNat false then true else false)&&((bif c.getD i.toNat false then true else false)&&((bif c.getD i.toNat false then true else false)&&((bif c.getD i.toNat false then true else false)&&((bif c.getD i.toNat false then true else false)&&true))))))))))))))))))))))))))))),[],Y72 k a b c):=by kernel_rfl
theorem r72_2 (k:Int) (a b:List Int) (c:List Bool) (i:Int):roundR 0 (liveH f72 0) (liveB' f72 0) (evalC tt (ctOf T39) ([]) 0 100 (bodyAt 0 (codeOf f72)) (I72 k a b c i) [(0,true),(0,true),(0,false),(0,true)])=
  some (.ret,(decide (i<(↑c.length:Int))&&(decide (0≤i)&&(decide (i<(↑c.length:Int))&&(decide (i.toNat<c.length)&&((c.getD i.toNat false)&&((c.getD i.toNat false)&&((c.getD i.toNat false)&&((c.getD i.toNat false)&&(decide (0≤i)&&(decide (i<(↑a.length:Int))&&((c.getD i.toNat false)&&(decide (i.toNat<a.length)&&((c.getD i.toNat false)&&((c.getD i.toNat false)&&((c.getD i.toNat false)&&(!!fok (a.getD i.toNat 0)&&(!!fok (a.getD i.toNat 0)&&(!!fok (a.getD i.toNat 0)&&(!!fok (a.getD i.toNat 0)&&(decide (0≤i)&&(decide (i<(↑b.length:Int))&&(!!fok (a.getD i.toNat 0)&&(decide (i.toNat<b.length)&&(!!fok (a.getD i.toNat 0)&&(!!fok (a.getD i.toNat 0)&&((c.getD i.toNat false)&&((bif c.getD i.toNat false then bif !fok (a.getD i.toNat 0)then true else !bet (b.getD i.toNat 0) 1 99 else false)&&((bif c.getD i.toNat false then bif !fok (a.getD i.toNat 0)then true else !bet (b.getD i.toNat 0) 1 99 else false)&&((bif c.getD i.toNat false then bif !fok (a.getD i.toNat 0)then true else !bet (b.getD i.toNat 0) 1 99 else false)&&((bif c.getD i.toNat false then bif !fok (a.getD i.toNat 0)then true else !bet (b.getD i.toNat 0) 1 99 else false)&&((bif c.getD i.toNat false then bif !fok (a.getD i.toNat 0)then true else !bet (b.getD i.toNat 0) 1 99 else false)&&true))))))))))))))))))))))))))))))),[],Y72 k a b c):=by kernel_rfl
theorem r72_3 (k:Int) (a b:List Int) (c:List Bool) (i:Int):roundR 0 (liveH f72 0) (liveB' f72 0) (evalC tt (ctOf T39) ([]) 0 100 (bodyAt 0 (codeOf f72)) (I72 k a b c i) [(0,true),(0,true),(0,false),(0,false),(0,false),(0,false)])=
  some (.normal,(decide (i<(↑c.length:Int))&&(decide (0≤i)&&(decide (i<(↑c.length:Int))&&(decide (i.toNat<c.length)&&((c.getD i.toNat false)&&((c.getD i.toNat false)&&((c.getD i.toNat false)&&((c.getD i.toNat false)&&(decide (0≤i)&&(decide (i<(↑a.length:Int))&&((c.getD i.toNat false)&&(decide (i.toNat<a.length)&&((c.getD i.toNat false)&&((c.getD i.toNat false)&&((c.getD i.toNat false)&&(!!fok (a.getD i.toNat 0)&&(!!fok (a.getD i.toNat 0)&&(!!fok (a.getD i.toNat 0)&&(!!fok (a.getD i.toNat 0)&&(decide (0≤i)&&(decide (i<(↑b.length:Int))&&(!!fok (a.getD i.toNat 0)&&(decide (i.toNat<b.length)&&(!!fok (a.getD i.toNat 0)&&(!!fok (a.getD i.toNat 0)&&((c.getD i.toNat false)&&((!bif c.getD i.toNat false then bif !fok (a.getD i.toNat 0)then true else !bet (b.getD i.toNat 0) 1 99 else false)&&((!bif c.getD i.toNat false then bif !fok (a.getD i.toNat 0)then true else !bet (b.getD i.toNat 0) 1 99 else false)&&((!bif c.getD i.toNat false then bif !fok (a.getD i.toNat 0)then true else !bet (b.getD i.toNat 0) 1 99 else false)&&((!!c.getD i.toNat false)&&((!!c.getD i.toNat false)&&((!!c.getD i.toNat false)&&((!!c.getD i.toNat false)&&((!!c.getD i.toNat false)&&((!!c.getD i.toNat false)&&((!!c.getD i.toNat false)&&((!!c.getD i.toNat false)&&((!bif c.getD i.toNat false then bif !fok (a.getD i.toNat 0)then true else !bet (b.getD i.toNat 0) 1 99 else false)&&((!!c.getD i.toNat false)&&((!bif bif c.getD i.toNat false then bif !fok (a.getD i.toNat 0)then true else !bet (b.getD i.toNat 0) 1 99 else false then true else false)&&true)))))))))))))))))))))))))))))))))))))))),[],I72 k a b c (IntKind.i64.wrap (i+1))):=by kernel_rfl
theorem r72_4 (k:Int) (a b:List Int) (c:List Bool) (i:Int):roundR 0 (liveH f72 0) (liveB' f72 0) (evalC tt (ctOf T39) ([]) 0 100 (bodyAt 0 (codeOf f72)) (I72 k a b c i) [(0,true),(0,false),(1,true),(0,true),(0,true)])=
  some (.ret,(decide (i<(↑c.length:Int))&&(decide (0≤i)&&(decide (i<(↑c.length:Int))&&(decide (i.toNat<c.length)&&((!c.getD i.toNat false)&&((!c.getD i.toNat false)&&((!c.getD i.toNat false)&&((!c.getD i.toNat false)&&((!c.getD i.toNat false)&&((!c.getD i.toNat false)&&((!c.getD i.toNat false)&&((!c.getD i.toNat false)&&((!c.getD i.toNat false)&&((!c.getD i.toNat false)&&((!c.getD i.toNat false)&&((!c.getD i.toNat false)&&((!c.getD i.toNat false)&&((!c.getD i.toNat false)&&(decide (0≤i)&&(decide (i<(↑a.length:Int))&&((!c.getD i.toNat false)&&(decide (i.toNat<a.length)&&((!c.getD i.toNat false)&&((!c.getD i.toNat false)&&((a.getD i.toNat 0 !=0)&&((a.getD i.toNat 0 !=0)&&((a.getD i.toNat 0 !=0)&&((a.getD i.toNat 0 !=0)&&((a.getD i.toNat 0 !=0)&&((a.getD i.toNat 0 !=0)&&((!c.getD i.toNat false)&&((a.getD i.toNat 0 !=0)&&((bif !c.getD i.toNat false then true else false)&&true))))))))))))))))))))))))))))))))),[],Y72 k a b c):=by kernel_rfl
theorem r72_5 (k:Int) (a b:List Int) (c:List Bool) (i:Int):roundR 0 (liveH f72 0) (liveB' f72 0) (evalC tt (ctOf T39) ([]) 0 100 (bodyAt 0 (codeOf f72)) (I72 k a b c i) [(0,true),(0,false),(1,true),(0,false),(0,true)])=
  some (.ret,(decide (i<(↑c.length:Int))&&(decide (0≤i)&&(decide (i<(↑c.length:Int))&&(decide (i.toNat<c.length)&&((!c.getD i.toNat false)&&((!c.getD i.toNat false)&&((!c.getD i.toNat false)&&((!c.getD i.toNat false)&&((!c.getD i.toNat false)&&((!c.getD i.toNat false)&&((!c.getD i.toNat false)&&((!c.getD i.toNat false)&&((!c.getD i.toNat false)&&((!c.getD i.toNat false)&&((!c.getD i.toNat false)&&((!c.getD i.toNat false)&&((!c.getD i.toNat false)&&((!c.getD i.toNat false)&&(decide (0≤i)&&(decide (i<(↑a.length:Int))&&((!c.getD i.toNat false)&&(decide (i.toNat<a.length)&&((!c.getD i.toNat false)&&((!c.getD i.toNat false)&&((!a.getD i.toNat 0 !=0)&&((!a.getD i.toNat 0 !=0)&&((!a.getD i.toNat 0 !=0)&&((!a.getD i.toNat 0 !=0)&&(decide (0≤i)&&(decide (i<(↑b.length:Int))&&((!a.getD i.toNat 0 !=0)&&(decide (i.toNat<b.length)&&((!a.getD i.toNat 0 !=0)&&((!c.getD i.toNat false)&&((bif !c.getD i.toNat false then bif a.getD i.toNat 0 !=0 then true else b.getD i.toNat 0 !=0 else false)&&true))))))))))))))))))))))))))))))))))),[],Y72 k a b c):=by kernel_rfl
theorem r72_6 (k:Int) (a b:List Int) (c:List Bool) (i:Int):roundR 0 (liveH f72 0) (liveB' f72 0) (evalC tt (ctOf T39) ([]) 0 100 (bodyAt 0 (codeOf f72)) (I72 k a b c i) [(0,true),(0,false),(1,true),(0,false),(0,false)])=
  some (.normal,(decide (i<(↑c.length:Int))&&(decide (0≤i)&&(decide (i<(↑c.length:Int))&&(decide (i.toNat<c.length)&&((!c.getD i.toNat false)&&((!c.getD i.toNat false)&&((!c.getD i.toNat false)&&((!c.getD i.toNat false)&&((!c.getD i.toNat false)&&((!c.getD i.toNat false)&&((!c.getD i.toNat false)&&((!c.getD i.toNat false)&&((!c.getD i.toNat false)&&((!c.getD i.toNat false)&&((!c.getD i.toNat false)&&((!c.getD i.toNat false)&&((!c.getD i.toNat false)&&((!c.getD i.toNat false)&&(decide (0≤i)&&(decide (i<(↑a.length:Int))&&((!c.getD i.toNat false)&&(decide (i.toNat<a.length)&&((!c.getD i.toNat false)&&((!c.getD i.toNat false)&&((!a.getD i.toNat 0 !=0)&&((!a.getD i.toNat 0 !=0)&&((!a.getD i.toNat 0 !=0)&&((!a.getD i.toNat 0 !=0)&&(decide (0≤i)&&(decide (i<(↑b.length:Int))&&((!a.getD i.toNat 0 !=0)&&(decide (i.toNat<b.length)&&((!a.getD i.toNat 0 !=0)&&((!c.getD i.toNat false)&&((!bif !c.getD i.toNat false then bif a.getD i.toNat 0 !=0 then true else b.getD i.toNat 0 !=0 else false)&&true))))))))))))))))))))))))))))))))))),[],I72 k a b c (IntKind.i64.wrap (i+1))):=by kernel_rfl
theorem r72_7 (k:Int) (a b:List Int) (c:List Bool) (i:Int):roundR 0 (liveH f72 0) (liveB' f72 0) (evalC tt (ctOf T39) ([]) 0 100 (bodyAt 0 (codeOf f72)) (I72 k a b c i) [(0,false)])=
  some (.exit 0,((!decide (i<(↑c.length:Int)))&&true),[],X72 k a b c):=by kernel_rfl
def shOk (a b:List Int) (c:List Bool) (i:Nat):Bool:=bif c.getD i false then fok (a.getD i 0)&&bet (b.getD i 0) 1 99 else !(a.getD i 0 !=0)&& !(b.getD i 0 !=0)
theorem l72 (k:Int) (a b:List Int) (c:List Bool) (ha:a.length=8) (hb:b.length=8) (hc:c.length=8):
  Good Tryz.prog 0 (.block 0 (.loop (bodyAt 0 (codeOf f72)))) (I72 k a b c 0) fun e t=>e=(bif allR (shOk a b c) 8 0 then .normal else .ret)∧t=bif allR (shOk a b c) 8 0 then X72 k a b c else Y72 k a b c:=by
 refine Good.all hT t39 hmix 8 (shOk a b c) (fun i=>I72 k a b c i) (X72 k a b c) (Y72 k a b c) .ret (.inr rfl) (liveH f72 0) (liveB' f72 0) (fun _=>[]) (fun _ _=>LcOk.nil) (fun i hi h=> ?_) (fun i hi h=> ?_)
  ⟨_,_,⟨_,_,r72_7 k a b c (8:Nat),by rw[hc];rfl,by simp⟩⟩
 ·unfold shOk at h
  cases h1:c.getD i false with
  |true=>
   rw[h1,cond_true,Bool.and_eq_true]at h
   obtain⟨h2,h3⟩:=h
   have e:=r72_3 k a b c i
   rw[wrap_small (by omega) (by omega),Int.toNat_natCast]at e
   refine⟨_,_,⟨_,_,e, ?_,by simp⟩⟩
   simp only[h1,h2,h3,Bool.not_true,Bool.not_false,cond_true,cond_false,Bool.true_and,Bool.and_true,Bool.and_eq_true,decide_eq_true_eq,true_and,and_true]
   omega
  |false=>
   rw[h1,cond_false,Bool.and_eq_true,Bool.not_eq_true',Bool.not_eq_true']at h
   obtain⟨h2,h3⟩:=h
   have e:=r72_6 k a b c i
   rw[wrap_small (by omega) (by omega),Int.toNat_natCast]at e
   refine⟨_,_,⟨_,_,e, ?_,by simp⟩⟩
   simp only[h1,h2,h3,Bool.not_true,Bool.not_false,cond_true,cond_false,Bool.true_and,Bool.and_true,Bool.and_eq_true,decide_eq_true_eq,true_and,and_true]
   omega
 ·unfold shOk at h
  rw[if_neg (by intro h;cases h)]
  cases h1:c.getD i false with
  |true=>
   rw[h1,cond_true]at h
   cases h2:fok (a.getD i 0)with
   |false=>
    have e:=r72_1 k a b c i
    rw[Int.toNat_natCast]at e
    refine⟨_,_,⟨_,_,e, ?_,by simp⟩⟩
    simp only[h1,h2,Bool.not_true,Bool.not_false,cond_true,cond_false,Bool.true_and,Bool.and_true,Bool.and_eq_true,decide_eq_true_eq,true_and,and_true]
    omega
   |true=>
    rw[h2,Bool.true_and]at h
    have e:=r72_2 k a b c i
    rw[Int.toNat_natCast]at e
    refine⟨_,_,⟨_,_,e, ?_,by simp⟩⟩
    simp only[h1,h2,h,Bool.not_true,Bool.not_false,cond_true,cond_false,Bool.true_and,Bool.and_true,Bool.and_eq_true,decide_eq_true_eq,true_and,and_true]
    omega
  |false=>
   rw[h1,cond_false]at h
   cases h2:a.getD i 0 !=0 with
   |true=>
    have e:=r72_4 k a b c i
    rw[Int.toNat_natCast]at e
    refine⟨_,_,⟨_,_,e, ?_,by simp⟩⟩
    simp only[h1,h2,Bool.not_true,Bool.not_false,cond_true,cond_false,Bool.true_and,Bool.and_true,Bool.and_eq_true,decide_eq_true_eq,true_and,and_true]
    omega
   |false=>
    rw[h2,Bool.not_false,Bool.true_and,Bool.not_eq_false']at h
    have e:=r72_5 k a b c i
    rw[Int.toNat_natCast]at e
    refine⟨_,_,⟨_,_,e, ?_,by simp⟩⟩
    simp only[h1,h2,h,Bool.not_true,Bool.not_false,cond_true,cond_false,Bool.true_and,Bool.and_true,Bool.and_eq_true,decide_eq_true_eq,true_and,and_true]
    omega
theorem shOk_fok {a b:List Int} {c:List Bool} (ha:a.length=8) (h:allR (shOk a b c) 8 0=true):allFok a=true:=by
 have key: ∀i,i<8→fok (a.getD i 0)=true:=fun i hi=>by
  have:=allR_spec.1 h i (by omega) (by omega)
  unfold shOk at this
  cases h1:c.getD i false with
  |true=>rw[h1,cond_true,Bool.and_eq_true]at this;exact this.1
  |false=>
   rw[h1,cond_false,Bool.and_eq_true,Bool.not_eq_true']at this
   have h2:a.getD i 0=0:=by simpa using this.1
   rw[h2];rfl
 simp only[allFok,List.all_eq_true]
 intro x hx
 obtain⟨i,hi⟩:=List.getElem?_of_mem hx
 have hlt:=(List.getElem?_eq_some_iff.1 hi).1
 have:=key i (by omega)
 rw[List.getD_eq_getElem?_getD,hi]at this
 simpa using this
theorem x72a_3 (k:Int) (a b:List Int) (c:List Bool):evalF tt (ctOf T39) ([(0,⟨liveH f72 0,I72 k a b c 0,.normal,X72 k a b c⟩)]) 100 f72 [.agg [.int .i64 k,.view none (.ints .i64 a) a.length 1 none,.view none (.ints .i64 b) b.length 1 none,.view none (.bools c) c.length 1 none]] [] [(0,false),(0,false)]=
  some ⟨.c (.bool !!(versL b c).all fun x=>fitsL k a (ofL b c x)),[],(!!bet k 1 2&&(!!bet k 1 2&&(!!bet k 1 2&&((!bif !bet k 1 2 then true else !shapedB a b c)&&(decide (c.length≤8)&&(decide (b.length=c.length)&&(decide ((versL b c).length≤274877906944)&&(decide ((versL b c).length=(versL b c).length)&&(decide (c.length=8)&&(decide (b.length=8)&&(bet k 1 2&&(decide (a.length=8)&&((allFok a)&&true))))))))))))),[I72 k a b c 0=I72 k a b c 0]⟩:=by kernel_rfl
theorem x72b_3 (k:Int) (a b:List Int) (c:List Bool):evalF tt (ctOf T39) ([(0,⟨liveH f72 0,I72 k a b c 0,.ret,Y72 k a b c⟩)]) 100 f72 [.agg [.int .i64 k,.view none (.ints .i64 a) a.length 1 none,.view none (.ints .i64 b) b.length 1 none,.view none (.bools c) c.length 1 none]] [] [(0,false),(0,false)]=
  some ⟨.c (.bool false),[],(!!bet k 1 2&&(!!bet k 1 2&&(!!bet k 1 2&&((!bif !bet k 1 2 then true else !shapedB a b c)&&true)))),[I72 k a b c 0=I72 k a b c 0]⟩:=by kernel_rfl
theorem x72c_1 (k:Int) (a b:List Int) (c:List Bool):evalF tt (ctOf T39) ([]) 100 f72 [.agg [.int .i64 k,.view none (.ints .i64 a) a.length 1 none,.view none (.ints .i64 b) b.length 1 none,.view none (.bools c) c.length 1 none]] [] [(0,true)]=
  some ⟨.c (.bool false),[],(!bet k 1 2&&(!bet k 1 2&&(!bet k 1 2&&((!bet k 1 2)&&true)))),[]⟩:=by kernel_rfl
theorem x72c_2 (k:Int) (a b:List Int) (c:List Bool):evalF tt (ctOf T39) ([]) 100 f72 [.agg [.int .i64 k,.view none (.ints .i64 a) a.length 1 none,.view none (.ints .i64 b) b.length 1 none,.view none (.bools c) c.length 1 none]] [] [(0,false),(0,true)]=
  some ⟨.c (.bool false),[],(!!bet k 1 2&&(!!bet k 1 2&&(!!bet k 1 2&&((bif !bet k 1 2 then true else !shapedB a b c)&&true)))),[]⟩:=by kernel_rfl
theorem compT_len (v:List Int): ∀n,(compT v n).length≤n
 |0=>by simp[compT]
 |n+1=>by
  have:=compT_len v n
  simp only[compT]
  cases Nat.beq n 0||v.getD n 0 !=v.getD (n-1) 0
  ·rw[cond_false];omega
  ·rw[cond_true,List.length_append,List.length_singleton];omega
theorem versL_len (b:List Int) (c:List Bool):(versL b c).length≤c.length:=by
 have h:=compT_len (revL (sortL (versA b (flg c)))) (revL (sortL (versA b (flg c)))).length
 rw[revL_len,sortL_len,versA_len]at h
 have:=flg_len c
 unfold versL compL
 rw[revL_len,sortL_len,versA_len]
 omega
def sokL (k:Int) (a b:List Int) (c:List Bool):Bool:=bet k 1 2&&(shapedB a b c&&(allR (shOk a b c) 8 0&&(versL b c).all fun x=>fitsL k a (ofL b c x)))
theorem shapedB_iff {a b:List Int} {c:List Bool}:shapedB a b c=true↔a.length=8∧b.length=8∧c.length=8:=by
 simp only[shapedB,Bool.and_eq_true,beq_iff_eq];omega
def FFsok:Model:=fun args h=>
 match args,h with
 |[.agg [.int .i64 k,.view _ (.ints .i64 a) n1 1 _,.view _ (.ints .i64 b) n2 1 _,.view _ (.bools c) n3 1 _]],[]=>
  some (.c (.bool (sokL k a b c)),[],[])
 |_,_=>none
theorem m72:ModelN Tryz.prog 83 FFsok:=by
 intro args h res h' o hnorm he ho
 unfold FFsok at he
 split at he
 case h_2=>cases he
 rename_i k nl1 a n1 cap1 nl2 b n2 cap2 nl3 c n3 cap3
 simp only[Option.some.injEq,Prod.mk.injEq]at he
 obtain⟨rfl,rfl,rfl⟩:=he
 simp only[normA,AV.norm,normL,Cell.norm,Con.size,List.cons.injEq,AV.c.injEq,AV.agg.injEq,Cell.view.injEq,nlen_one,true_and,and_true]at hnorm
 obtain⟨⟨rfl,rfl,rfl⟩,⟨rfl,rfl,rfl⟩,rfl,rfl,rfl⟩:=hnorm
 unfold sokL
 cases h1:bet k 1 2 with
 |false=>exact meets_of t39 (by kernel_rfl) (by kernel_rfl) (x72c_1 k a b c) (by rw[h1];rfl) (by simp) (fun c _=>LcOk.nil)
 |true=>
  cases h2:shapedB a b c with
  |false=>exact meets_of t39 (by kernel_rfl) (by kernel_rfl) (x72c_2 k a b c) (by rw[h1,h2];rfl) (by simp) (fun c _=>LcOk.nil)
  |true=>
   obtain⟨ha,hb,hc⟩:=shapedB_iff.1 h2
   have g:=l72 k a b c ha hb hc
   have hv:=versL_len b c
   cases h3:allR (shOk a b c) 8 0 with
   |false=>
    rw[h3]at g
    exact meets_of t39 (fn:=f72) (by kernel_rfl) (by kernel_rfl) (x72b_3 k a b c) (by rw[h1,h2];rfl) (by simp) (fun cc hcc=>LcOk.cons (c:=cc) (by cases hcc;kernel_rfl) (by cases hcc;exact g) LcOk.nil)
   |true=>
    rw[h3]at g
    have e:=x72a_3 k a b c
    rw[Bool.not_not]at e
    exact meets_of t39 (fn:=f72) (by kernel_rfl) (by kernel_rfl) e (by
     rw[h1,h2,shOk_fok ha h3]
     simp only[Bool.not_true,Bool.not_false,cond_false,Bool.true_and,Bool.and_true,Bool.and_eq_true,decide_eq_true_eq,true_and,and_true]
     omega) (by simp) (fun cc hcc=>LcOk.cons (c:=cc) (by cases hcc;kernel_rfl) (by cases hcc;exact g) LcOk.nil)
noncomputable def T40:List Entry:=[⟨83,[],nm FFsok⟩]++T39
theorem e40:EntriesOk Tryz.prog T40:=by
 refine EntriesOk.append ?_ e39
 intro e he
 simp only[List.mem_cons,List.not_mem_nil,or_false]at he
 subst he;exact m72.ok
noncomputable abbrev f65:=Tryz.f51
end Go.Proofs.YthapjdpkelihiaaGreat.Am
end
section
namespace Go.Proofs.YthapjdpkelihiaaGreat.Am
def rdB (k:Int) (w v:List Int):Bool:=bearsL k v&&fitsL k w v
def sol4 (k:Int) (w v:List Int):List Int:=[(solL k w v).getD 0 0,(solL k w v).getD 1 0,(solL k w v).getD 2 0,(solL k w v).getD 3 0]
def rdX (k:Int) (w v:List Int):List Int:=bif rdB k w v then sol4 k w v else []
def FFread:Model:=fun args h=>
 match args,h with
 |[.c (.int .i64 k),.c (.view _ (.ints .i64 w) n 1 _),.c (.view _ (.ints .i64 v) n2 1 _)],[]=>
  some (.tup [.c (.sl 0 0 (rdX k w v).length 1 none),.c (.bool (rdB k w v))],[.live (.ints .i64 (rdX k w v))],[decide (v.length≤8),bet k 1 2,allShard v,decide (w.length=8),allFok w,solOk k w v])
 |_,_=>none
theorem m110u:ModelN Tryz.prog 111 FFread:=by
 intro args h res h' o hnorm he ho
 unfold FFread at he
 split at he
 case h_2=>cases he
 rename_i k nl w n cap nl2 v n2 cap2
 simp only[Option.some.injEq,Prod.mk.injEq]at he
 obtain⟨rfl,rfl,rfl⟩:=he
 simp only[List.mem_cons,List.not_mem_nil,or_false,forall_eq_or_imp,forall_eq,decide_eq_true_eq]at ho
 obtain⟨o1,o2,o3,o4,o5,o6⟩:=ho
 simp only[normA,AV.norm,normL,Cell.norm,Con.size,List.cons.injEq,AV.c.injEq,AV.agg.injEq,Cell.view.injEq,nlen_one,true_and,and_true]at hnorm
 obtain⟨⟨rfl,rfl,rfl⟩,rfl,rfl,rfl⟩:=hnorm
 unfold rdX
 cases hr:rdB k w v with
 |true=>
  have hr':=hr
  simp only[rdB,Bool.and_eq_true]at hr'
  exact m110 _ _ _ _ _ (by simp only[normA,AV.norm,Cell.norm,Con.size,nlen_one]) rfl (by simp[o1,o2,o3,o4,o5,o6,hr'.1,hr'.2])
 |false=>
  exact Meets.nilTup (h':=[]) (c0:=.ints .i64 []) (m110n _ _ (.tup [.c .nils,.c (.bool false)]) [] _ (by simp only[normA,AV.norm,Cell.norm,Con.size,nlen_one]) rfl (by simp only[rdB]at hr;simp[o1,o2,o3,o4,o5,o6,hr])) rfl
noncomputable def T41:List Entry:=[⟨111,[],nm FFread⟩]++T40
theorem e41:EntriesOk Tryz.prog T41:=by
 refine EntriesOk.append ?_ e40
 intro e he
 simp only[List.mem_cons,List.not_mem_nil,or_false]at he
 subst he;exact m110u.ok
theorem t41:CtOk Tryz.prog (ctOf T41):=ctOf_ok e41
noncomputable def I65 (k:Int) (a b:List Int) (c:List Bool) (v:List Int) (i:Int):St:=
 stOf f65.ntmps [(1,.c (.ptr 0 0 0 0)),(10,.c (.sl 1 0 v.length 1 none)),(11,.c (.int .i64 v.length)),(12,.c (.int .i64 i))] [.live (.cells [.int .i64 k,.view none (.ints .i64 a) a.length 1 none,.view none (.ints .i64 b) b.length 1 none,.view none (.bools c) c.length 1 none]),.live (.ints .i64 v)]
noncomputable def Y65 (k:Int) (a b:List Int) (c:List Bool) (x:Int):St:=
 stOf f65.ntmps [(2,.c (.sl 0 0 (rdX k a (ofL b c x)).length 1 none)),(3,.c (.int .i64 x)),(4,.c (.bool true))] [.live (.ints .i64 (rdX k a (ofL b c x)))]
noncomputable def X65:St:=stOf f65.ntmps [] []
theorem r65_1 (k:Int) (a b:List Int) (c:List Bool) (v:List Int) (i:Int):roundR 0 (liveH f65 0) (liveB' f65 0) (evalC tt (ctOf T41) ([]) 0 100 (bodyAt 0 (codeOf f65)) (I65 k a b c v i) [(0,true),(0,true)])=
  some (.ret,(decide (i<(↑v.length:Int))&&(decide (0≤i)&&(decide (i<(↑v.length:Int))&&(decide (i.toNat<v.length)&&(decide (c.length≤274877906944)&&(decide (b.length=c.length)&&(decide ((ofL b c (v.getD i.toNat 0)).length=(ofL b c (v.getD i.toNat 0)).length)&&(decide ((ofL b c (v.getD i.toNat 0)).length≤8)&&(bet k 1 2&&(allShard (ofL b c (v.getD i.toNat 0))&&(decide (a.length=8)&&(allFok a&&(solOk k a (ofL b c (v.getD i.toNat 0))&&((rdB k a (ofL b c (v.getD i.toNat 0)))&&true)))))))))))))),[],Y65 k a b c (v.getD i.toNat 0)):=by kernel_rfl
theorem r65_2 (k:Int) (a b:List Int) (c:List Bool) (v:List Int) (i:Int):roundR 0 (liveH f65 0) (liveB' f65 0) (evalC tt (ctOf T41) ([]) 0 100 (bodyAt 0 (codeOf f65)) (I65 k a b c v i) [(0,true),(0,false)])=
  some (.normal,(decide (i<(↑v.length:Int))&&(decide (0≤i)&&(decide (i<(↑v.length:Int))&&(decide (i.toNat<v.length)&&(decide (c.length≤274877906944)&&(decide (b.length=c.length)&&(decide ((ofL b c (v.getD i.toNat 0)).length=(ofL b c (v.getD i.toNat 0)).length)&&(decide ((ofL b c (v.getD i.toNat 0)).length≤8)&&(bet k 1 2&&(allShard (ofL b c (v.getD i.toNat 0))&&(decide (a.length=8)&&(allFok a&&(solOk k a (ofL b c (v.getD i.toNat 0))&&((!rdB k a (ofL b c (v.getD i.toNat 0)))&&true)))))))))))))),[],I65 k a b c v (IntKind.i64.wrap (i+1))):=by kernel_rfl
theorem r65_3 (k:Int) (a b:List Int) (c:List Bool) (v:List Int) (i:Int):roundR 0 (liveH f65 0) (liveB' f65 0) (evalC tt (ctOf T41) ([]) 0 100 (bodyAt 0 (codeOf f65)) (I65 k a b c v i) [(0,false)])=
  some (.exit 0,((!decide (i<(↑v.length:Int)))&&true),[],X65):=by kernel_rfl
theorem runE_find (q:Int→Bool) (v:List Int): ∀(n i:Nat),i+n=v.length→runE (fun i (_:Unit)=>bif q (v.getD i 0)then .inr (v.getD i 0)else .inl ()) n i ()=match(v.drop i).find? q with|some x=> .inr x|none=> .inl ()
 |0,i,h=>by rw[List.drop_eq_nil_of_le (by omega)];rfl
 |n+1,i,h=>by
  have hi:i<v.length:=by omega
  rw[List.drop_eq_getElem_cons hi]
  have hg:v.getD i 0=v[i]:=by rw[List.getD_eq_getElem?_getD,List.getElem?_eq_getElem hi];rfl
  simp only[runE,List.find?_cons]
  rw[hg]
  cases hq:q v[i]with
  |true=>rfl
  |false=>simp only[cond_false];exact runE_find q v n (i+1) (by omega)
def rdV (k:Int) (a b:List Int) (c:List Bool):Option Int:=(versL b c).find? fun x=>rdB k a (ofL b c x)
def okE:Option Int→Ex
 |some _=> .ret
 |none=> .normal
noncomputable def okS (k:Int) (a b:List Int) (c:List Bool):Option Int→St
 |some x=>Y65 k a b c x
 |none=>X65
theorem l65 (k:Int) (a b:List Int) (c:List Bool) (hk:bet k 1 2=true) (ha:a.length=8) (haf:allFok a=true) (hb:b.length=8) (hc:c.length=8):
  Good Tryz.prog 0 (.block 0 (.loop (bodyAt 0 (codeOf f65)))) (I65 k a b c (versL b c) 0) fun e t=>e=okE (rdV k a b c)∧t=okS k a b c (rdV k a b c):=by
 have hv:=versL_len b c
 have key:=Good.countE hT t41 hmix (m:=0) (id:=0) (body:=bodyAt 0 (codeOf f65)) (versL b c).length (fun _ _=>True) (fun i _=>I65 k a b c (versL b c) i) (fun _=>X65) (fun x=>Y65 k a b c x) .ret (.inr rfl)
  (fun i (_:Unit)=>bif rdB k a (ofL b c ((versL b c).getD i 0))then .inr ((versL b c).getD i 0)else .inl ()) (liveH f65 0) (liveB' f65 0) (fun _ _=>[]) (fun _ _ _ _=>LcOk.nil) (fun i _ hi _=> ?_)
  (fun _ _=>⟨_,_,⟨_,_,r65_3 k a b c (versL b c) (versL b c).length,by simp,by simp⟩⟩) () trivial
 ·refine Good.mono key fun e t h=> ?_
  rw[runE_find (fun x=>rdB k a (ofL b c x)) (versL b c) _ 0 (by omega)]at h
  revert h
  show _→e=okE ((versL b c).find? fun x=>rdB k a (ofL b c x))∧t=okS k a b c ((versL b c).find? fun x=>rdB k a (ofL b c x))
  rw[List.drop_zero]
  cases (versL b c).find? fun x=>rdB k a (ofL b c x)<;>exact fun h=>h
 ·have hs:=of_shard (b:=b) (vs:=(versL b c).getD i 0) hc
  have ho:=solOk_of (w:=a) (b:=b) (c:=c) (vs:=(versL b c).getD i 0) hk hc
  cases hq:rdB k a (ofL b c ((versL b c).getD i 0))with
  |true=>
   refine .inr ⟨_,rfl, ?_⟩
   have e:=r65_1 k a b c (versL b c) i
   rw[Int.toNat_natCast]at e
   rw[if_neg (by intro h;cases h)]
   refine⟨_,_,⟨_,_,e, ?_,by simp⟩⟩
   simp only[hq,hk,hs.1,haf,ho,Bool.true_and,Bool.and_true,Bool.and_eq_true,decide_eq_true_eq,true_and,and_true]
   omega
  |false=>
   refine .inl ⟨(),rfl,trivial, ?_⟩
   have e:=r65_2 k a b c (versL b c) i
   rw[wrap_small (by omega) (by omega),Int.toNat_natCast]at e
   refine⟨_,_,⟨_,_,e, ?_,by simp⟩⟩
   simp only[hq,hk,hs.1,haf,ho,Bool.not_false,Bool.true_and,Bool.and_true,Bool.and_eq_true,decide_eq_true_eq,true_and,and_true]
   omega
theorem x65a_1 (k:Int) (a b:List Int) (c:List Bool) (x:Int):evalF tt (ctOf T41) ([(0,⟨liveH f65 0,I65 k a b c (versL b c) 0,.ret,Y65 k a b c x⟩)]) 100 f65 [.agg [.int .i64 k,.view none (.ints .i64 a) a.length 1 none,.view none (.ints .i64 b) b.length 1 none,.view none (.bools c) c.length 1 none]] [] []=
  some ⟨.tup [.c (.sl 0 0 (rdX k a (ofL b c x)).length 1 none),.c (.int .i64 x),.c (.bool true)],[.live (.ints .i64 (rdX k a (ofL b c x)))],(decide (c.length≤8)&&((decide (b.length=c.length))&&true)),[I65 k a b c (versL b c) 0=I65 k a b c (versL b c) 0]⟩:=by kernel_rfl
theorem x65b_1 (k:Int) (a b:List Int) (c:List Bool):evalF tt (ctOf T41) ([(0,⟨liveH f65 0,I65 k a b c (versL b c) 0,.normal,X65⟩)]) 100 f65 [.agg [.int .i64 k,.view none (.ints .i64 a) a.length 1 none,.view none (.ints .i64 b) b.length 1 none,.view none (.bools c) c.length 1 none]] [] []=
  some ⟨.tup [.c .nils,.c (.int .i64 0),.c (.bool false)],[],(decide (c.length≤8)&&((decide (b.length=c.length))&&true)),[I65 k a b c (versL b c) 0=I65 k a b c (versL b c) 0]⟩:=by kernel_rfl
def rdD (k:Int) (a b:List Int) (c:List Bool):List Int:=match rdV k a b c with|some x=>rdX k a (ofL b c x)|none=>[]
def rdN (k:Int) (a b:List Int) (c:List Bool):Int:=match rdV k a b c with|some x=>x|none=>0
def rdS (k:Int) (a b:List Int) (c:List Bool):Bool:=match rdV k a b c with|some _=>true|none=>false
def FFreadS:Model:=fun args h=>
 match args,h with
 |[.agg [.int .i64 k,.view _ (.ints .i64 a) n1 1 _,.view _ (.ints .i64 b) n2 1 _,.view _ (.bools c) n3 1 _]],[]=>
  some (.tup [.c (.sl 0 0 (rdD k a b c).length 1 none),.c (.int .i64 (rdN k a b c)),.c (.bool (rdS k a b c))],[.live (.ints .i64 (rdD k a b c))],[decide (c.length=8),decide (b.length=8),decide (a.length=8),bet k 1 2,allFok a])
 |_,_=>none
theorem m65:ModelN Tryz.prog 51 FFreadS:=by
 intro args h res h' o hnorm he ho
 unfold FFreadS at he
 split at he
 case h_2=>cases he
 rename_i k nl1 a n1 cap1 nl2 b n2 cap2 nl3 c n3 cap3
 simp only[Option.some.injEq,Prod.mk.injEq]at he
 obtain⟨rfl,rfl,rfl⟩:=he
 simp only[List.mem_cons,List.not_mem_nil,or_false,forall_eq_or_imp,forall_eq,decide_eq_true_eq]at ho
 obtain⟨o1,o2,o3,o4,o5⟩:=ho
 simp only[normA,AV.norm,normL,Cell.norm,Con.size,List.cons.injEq,AV.c.injEq,AV.agg.injEq,Cell.view.injEq,nlen_one,true_and,and_true]at hnorm
 obtain⟨⟨rfl,rfl,rfl⟩,⟨rfl,rfl,rfl⟩,rfl,rfl,rfl⟩:=hnorm
 have g:=l65 k a b c o4 o3 o5 o2 o1
 unfold rdD rdN rdS
 cases hr:rdV k a b c with
 |some x=>
  rw[hr]at g
  exact meets_of t41 (fn:=f65) (by kernel_rfl) (by kernel_rfl) (x65a_1 k a b c x) (by simp[o1,o2]) (by simp) (fun cc hcc=>LcOk.cons (c:=cc) (by cases hcc;kernel_rfl) (by cases hcc;exact g) LcOk.nil)
 |none=>
  rw[hr]at g
  exact Meets.nilTup (h':=[]) (c0:=.ints .i64 []) (meets_of t41 (fn:=f65) (by kernel_rfl) (by kernel_rfl) (x65b_1 k a b c) (by simp[o1,o2]) (by simp) (fun cc hcc=>LcOk.cons (c:=cc) (by cases hcc;kernel_rfl) (by cases hcc;exact g) LcOk.nil)) rfl
noncomputable def T42:List Entry:=[⟨51,[],nm FFreadS⟩]++T41
theorem e42:EntriesOk Tryz.prog T42:=by
 refine EntriesOk.append ?_ e41
 intro e he
 simp only[List.mem_cons,List.not_mem_nil,or_false]at he
 subst he;exact m65.ok
theorem t42:CtOk Tryz.prog (ctOf T42):=ctOf_ok e42
theorem x40_1 (k:Int) (a b:List Int) (c:List Bool):evalF tt (ctOf T42) ([]) 100 Tryz.f38 [.agg [.int .i64 k,.view none (.ints .i64 a) a.length 1 none,.view none (.ints .i64 b) b.length 1 none,.view none (.bools c) c.length 1 none]] [] [(0,true)]=
  some ⟨.tup [.c .nils,.c (.int .i64 0),.c (.bool false)],[],((!sokL k a b c)&&true),[]⟩:=by kernel_rfl
theorem x40_2 (k:Int) (a b:List Int) (c:List Bool):evalF tt (ctOf T42) ([]) 100 Tryz.f38 [.agg [.int .i64 k,.view none (.ints .i64 a) a.length 1 none,.view none (.ints .i64 b) b.length 1 none,.view none (.bools c) c.length 1 none]] [] [(0,false)]=
  some ⟨.tup [.c (.sl 0 0 (rdD k a b c).length 1 none),.c (.int .i64 (rdN k a b c)),.c (.bool (rdS k a b c))],[.live (.ints .i64 (rdD k a b c))],(!!sokL k a b c&&(decide (c.length=8)&&(decide (b.length=8)&&(decide (a.length=8)&&(bet k 1 2&&((allFok a)&&true)))))),[]⟩:=by kernel_rfl
theorem x44_1 (k:Int) (a b:List Int) (c:List Bool):evalF tt (ctOf T42) ([]) 100 Tryz.f42 [.agg [.int .i64 k,.view none (.ints .i64 a) a.length 1 none,.view none (.ints .i64 b) b.length 1 none,.view none (.bools c) c.length 1 none]] [] [(0,true)]=
  some ⟨.c (.int .i64 (-1)),[],((!sokL k a b c)&&true),[]⟩:=by kernel_rfl
theorem x44_2 (k:Int) (a b:List Int) (c:List Bool):evalF tt (ctOf T42) ([]) 100 Tryz.f42 [.agg [.int .i64 k,.view none (.ints .i64 a) a.length 1 none,.view none (.ints .i64 b) b.length 1 none,.view none (.bools c) c.length 1 none]] [] [(0,false)]=
  some ⟨.c (.int .i64 (topL b c)),[],(!!sokL k a b c&&(decide (c.length≤8)&&((decide (b.length=c.length))&&true))),[]⟩:=by kernel_rfl
end Go.Proofs.YthapjdpkelihiaaGreat.Am
end
section
namespace Go.Proofs.YthapjdpkelihiaaGreat.Am
theorem sok_shape {k:Int} {a b:List Int} {c:List Bool} (h:sokL k a b c=true):bet k 1 2=true∧a.length=8∧b.length=8∧c.length=8∧allFok a=true:=by
 simp only[sokL,Bool.and_eq_true]at h
 obtain⟨h1,h2,h3,h4⟩:=h
 obtain⟨ha,hb,hc⟩:=shapedB_iff.1 h2
 exact⟨h1,ha,hb,hc,shOk_fok ha h3⟩
def srD (k:Int) (a b:List Int) (c:List Bool):List Int:=bif sokL k a b c then rdD k a b c else []
def srN (k:Int) (a b:List Int) (c:List Bool):Int:=bif sokL k a b c then rdN k a b c else 0
def srS (k:Int) (a b:List Int) (c:List Bool):Bool:=bif sokL k a b c then rdS k a b c else false
def FFsread:Model:=fun args h=>
 match args,h with
 |[.agg [.int .i64 k,.view _ (.ints .i64 a) n1 1 _,.view _ (.ints .i64 b) n2 1 _,.view _ (.bools c) n3 1 _]],[]=>
  some (.tup [.c (.sl 0 0 (srD k a b c).length 1 none),.c (.int .i64 (srN k a b c)),.c (.bool (srS k a b c))],[.live (.ints .i64 (srD k a b c))],[])
 |_,_=>none
theorem m40:ModelN Tryz.prog 38 FFsread:=by
 intro args h res h' o hnorm he ho
 unfold FFsread at he
 split at he
 case h_2=>cases he
 rename_i k nl1 a n1 cap1 nl2 b n2 cap2 nl3 c n3 cap3
 simp only[Option.some.injEq,Prod.mk.injEq]at he
 obtain⟨rfl,rfl,rfl⟩:=he
 simp only[normA,AV.norm,normL,Cell.norm,Con.size,List.cons.injEq,AV.c.injEq,AV.agg.injEq,Cell.view.injEq,nlen_one,true_and,and_true]at hnorm
 obtain⟨⟨rfl,rfl,rfl⟩,⟨rfl,rfl,rfl⟩,rfl,rfl,rfl⟩:=hnorm
 unfold srD srN srS
 cases hr:sokL k a b c with
 |true=>
  obtain⟨o1,o2,o3,o4,o5⟩:=sok_shape hr
  exact meets_of t42 (by kernel_rfl) (by kernel_rfl) (x40_2 k a b c) (by simp[hr,o1,o2,o3,o4,o5]) (by simp) (fun cc _=>LcOk.nil)
 |false=>
  exact Meets.nilTup (h':=[]) (c0:=.ints .i64 []) (meets_of t42 (by kernel_rfl) (by kernel_rfl) (x40_1 k a b c) (by simp[hr]) (by simp) (fun cc _=>LcOk.nil)) rfl
def stopL (k:Int) (a b:List Int) (c:List Bool):Int:=bif sokL k a b c then topL b c else -1
def FFstop:Model:=fun args h=>
 match args,h with
 |[.agg [.int .i64 k,.view _ (.ints .i64 a) n1 1 _,.view _ (.ints .i64 b) n2 1 _,.view _ (.bools c) n3 1 _]],[]=>
  some (.c (.int .i64 (stopL k a b c)),[],[])
 |_,_=>none
theorem m44:ModelN Tryz.prog 42 FFstop:=by
 intro args h res h' o hnorm he ho
 unfold FFstop at he
 split at he
 case h_2=>cases he
 rename_i k nl1 a n1 cap1 nl2 b n2 cap2 nl3 c n3 cap3
 simp only[Option.some.injEq,Prod.mk.injEq]at he
 obtain⟨rfl,rfl,rfl⟩:=he
 simp only[normA,AV.norm,normL,Cell.norm,Con.size,List.cons.injEq,AV.c.injEq,AV.agg.injEq,Cell.view.injEq,nlen_one,true_and,and_true]at hnorm
 obtain⟨⟨rfl,rfl,rfl⟩,⟨rfl,rfl,rfl⟩,rfl,rfl,rfl⟩:=hnorm
 unfold stopL
 cases hr:sokL k a b c with
 |true=>
  obtain⟨o1,o2,o3,o4,o5⟩:=sok_shape hr
  exact meets_of t42 (by kernel_rfl) (by kernel_rfl) (x44_2 k a b c) (by simp[hr,o1,o2,o3,o4,o5]) (by simp) (fun cc _=>LcOk.nil)
 |false=>exact meets_of t42 (by kernel_rfl) (by kernel_rfl) (x44_1 k a b c) (by simp[hr]) (by simp) (fun cc _=>LcOk.nil)
noncomputable def T43:List Entry:=[⟨38,[],nm FFsread⟩,⟨42,[],nm FFstop⟩]++T42
theorem e43:EntriesOk Tryz.prog T43:=by
 refine EntriesOk.append ?_ e42
 intro e he
 simp only[List.mem_cons,List.not_mem_nil,or_false]at he
 rcases he with rfl|rfl
 ·exact m40.ok
 ·exact m44.ok
theorem t43:CtOk Tryz.prog (ctOf T43):=ctOf_ok e43
noncomputable abbrev f22:=Tryz.f25
def encI (kd:Int) (d:List Int):List Int:=encL kd [ifI (elsOk d 4) (d.getD 0 0),ifI (elsOk d 4) (d.getD 1 0),ifI (elsOk d 4) (d.getD 2 0),ifI (elsOk d 4) (d.getD 3 0)]
noncomputable def I22 (k:Int) (a b:List Int) (c:List Bool) (on:Bool) (kd:Int) (d:List Int) (vs:Int) (ev:List Int) (i:Int):St:=
 stOf f22.ntmps [(1,.c (.ptr 0 0 0 0)),(9,.c (.sl 1 0 8 1 none)),(96,.c (.view none (.ints .i64 b) b.length 1 none)),(97,.c (.int .i64 b.length)),(98,.c (.int .i64 i))] [.live (.cells [.int .i64 k,.view none (.ints .i64 a) a.length 1 none,.view none (.ints .i64 b) b.length 1 none,.view none (.bools c) c.length 1 none,.bool on,.int .i64 kd,.view none (.ints .i64 d) d.length 1 none,.int .i64 vs]),.live (.ints .i64 ev)]
noncomputable def X22:St:=stOf f22.ntmps [] []
noncomputable def Y22:St:=stOf f22.ntmps [(2,.c (.bool false))] []
theorem r22_1 (k:Int) (a b:List Int) (c:List Bool) (on:Bool) (kd:Int) (d:List Int) (vs:Int) (ev:List Int) (i:Int):roundR 0 (liveH f22 0) (liveB' f22 0) (evalC tt (ctOf T43) ([]) 0 100 (bodyAt 0 (codeOf f22)) (I22 k a b c on kd d vs ev i) [(0,true),(0,true),(0,true),(0,true)])=
  some (.ret,(decide (i<(↑b.length:Int))&&(decide (0≤i)&&(decide (i<(↑b.length:Int))&&(decide (i.toNat<b.length)&&((b.getD i.toNat 0==vs)&&((b.getD i.toNat 0==vs)&&((b.getD i.toNat 0==vs)&&((b.getD i.toNat 0==vs)&&((b.getD i.toNat 0==vs)&&(decide (0≤i)&&(decide (i<(↑c.length:Int))&&((b.getD i.toNat 0==vs)&&(decide (i.toNat<c.length)&&((b.getD i.toNat 0==vs)&&((b.getD i.toNat 0==vs)&&((!c.getD i.toNat false)&&((!c.getD i.toNat false)&&((!c.getD i.toNat false)&&((!c.getD i.toNat false)&&((!c.getD i.toNat false)&&((!c.getD i.toNat false)&&((!c.getD i.toNat false)&&((!c.getD i.toNat false)&&((!c.getD i.toNat false)&&((!c.getD i.toNat false)&&((!c.getD i.toNat false)&&((b.getD i.toNat 0==vs)&&((!c.getD i.toNat false)&&((bif b.getD i.toNat 0==vs then true else false)&&true))))))))))))))))))))))))))))),[],Y22):=by kernel_rfl
theorem r22_2 (k:Int) (a b:List Int) (c:List Bool) (on:Bool) (kd:Int) (d:List Int) (vs:Int) (ev:List Int) (i:Int):roundR 0 (liveH f22 0) (liveB' f22 0) (evalC tt (ctOf T43) ([]) 0 100 (bodyAt 0 (codeOf f22)) (I22 k a b c on kd d vs ev i) [(0,true),(0,true),(0,false),(0,true)])=
  some (.ret,(decide (i<(↑b.length:Int))&&(decide (0≤i)&&(decide (i<(↑b.length:Int))&&(decide (i.toNat<b.length)&&((b.getD i.toNat 0==vs)&&((b.getD i.toNat 0==vs)&&((b.getD i.toNat 0==vs)&&((b.getD i.toNat 0==vs)&&((b.getD i.toNat 0==vs)&&(decide (0≤i)&&(decide (i<(↑c.length:Int))&&((b.getD i.toNat 0==vs)&&(decide (i.toNat<c.length)&&((b.getD i.toNat 0==vs)&&((b.getD i.toNat 0==vs)&&((!!c.getD i.toNat false)&&((!!c.getD i.toNat false)&&((!!c.getD i.toNat false)&&((!!c.getD i.toNat false)&&((!!c.getD i.toNat false)&&(decide (0≤i)&&(decide (i<(↑a.length:Int))&&((!!c.getD i.toNat false)&&(decide (i.toNat<a.length)&&((!!c.getD i.toNat false)&&((!!c.getD i.toNat false)&&((!!c.getD i.toNat false)&&(decide (0≤i)&&(decide (i<8)&&((!!c.getD i.toNat false)&&(decide (i.toNat<ev.length)&&((!!c.getD i.toNat false)&&((b.getD i.toNat 0==vs)&&((bif b.getD i.toNat 0==vs then bif !c.getD i.toNat false then true else a.getD i.toNat 0 !=ev.getD i.toNat 0 else false)&&true)))))))))))))))))))))))))))))))))),[],Y22):=by kernel_rfl
theorem r22_3 (k:Int) (a b:List Int) (c:List Bool) (on:Bool) (kd:Int) (d:List Int) (vs:Int) (ev:List Int) (i:Int):roundR 0 (liveH f22 0) (liveB' f22 0) (evalC tt (ctOf T43) ([]) 0 100 (bodyAt 0 (codeOf f22)) (I22 k a b c on kd d vs ev i) [(0,true),(0,true),(0,false),(0,false)])=
  some (.normal,(decide (i<(↑b.length:Int))&&(decide (0≤i)&&(decide (i<(↑b.length:Int))&&(decide (i.toNat<b.length)&&((b.getD i.toNat 0==vs)&&((b.getD i.toNat 0==vs)&&((b.getD i.toNat 0==vs)&&((b.getD i.toNat 0==vs)&&((b.getD i.toNat 0==vs)&&(decide (0≤i)&&(decide (i<(↑c.length:Int))&&((b.getD i.toNat 0==vs)&&(decide (i.toNat<c.length)&&((b.getD i.toNat 0==vs)&&((b.getD i.toNat 0==vs)&&((!!c.getD i.toNat false)&&((!!c.getD i.toNat false)&&((!!c.getD i.toNat false)&&((!!c.getD i.toNat false)&&((!!c.getD i.toNat false)&&(decide (0≤i)&&(decide (i<(↑a.length:Int))&&((!!c.getD i.toNat false)&&(decide (i.toNat<a.length)&&((!!c.getD i.toNat false)&&((!!c.getD i.toNat false)&&((!!c.getD i.toNat false)&&(decide (0≤i)&&(decide (i<8)&&((!!c.getD i.toNat false)&&(decide (i.toNat<ev.length)&&((!!c.getD i.toNat false)&&((b.getD i.toNat 0==vs)&&((!bif b.getD i.toNat 0==vs then bif !c.getD i.toNat false then true else a.getD i.toNat 0 !=ev.getD i.toNat 0 else false)&&true)))))))))))))))))))))))))))))))))),[],I22 k a b c on kd d vs ev (IntKind.i64.wrap (i+1))):=by kernel_rfl
theorem r22_4 (k:Int) (a b:List Int) (c:List Bool) (on:Bool) (kd:Int) (d:List Int) (vs:Int) (ev:List Int) (i:Int):roundR 0 (liveH f22 0) (liveB' f22 0) (evalC tt (ctOf T43) ([]) 0 100 (bodyAt 0 (codeOf f22)) (I22 k a b c on kd d vs ev i) [(0,true),(0,false)])=
  some (.normal,(decide (i<(↑b.length:Int))&&(decide (0≤i)&&(decide (i<(↑b.length:Int))&&(decide (i.toNat<b.length)&&((!b.getD i.toNat 0==vs)&&((!b.getD i.toNat 0==vs)&&((!b.getD i.toNat 0==vs)&&((!b.getD i.toNat 0==vs)&&((!b.getD i.toNat 0==vs)&&((!b.getD i.toNat 0==vs)&&((!b.getD i.toNat 0==vs)&&((!b.getD i.toNat 0==vs)&&((!b.getD i.toNat 0==vs)&&((!b.getD i.toNat 0==vs)&&true)))))))))))))),[],I22 k a b c on kd d vs ev (IntKind.i64.wrap (i+1))):=by kernel_rfl
theorem r22_5 (k:Int) (a b:List Int) (c:List Bool) (on:Bool) (kd:Int) (d:List Int) (vs:Int) (ev:List Int) (i:Int):roundR 0 (liveH f22 0) (liveB' f22 0) (evalC tt (ctOf T43) ([]) 0 100 (bodyAt 0 (codeOf f22)) (I22 k a b c on kd d vs ev i) [(0,false)])=
  some (.exit 0,((!decide (i<(↑b.length:Int)))&&true),[],X22):=by kernel_rfl
theorem x22a_1 (k:Int) (a b:List Int) (c:List Bool) (on:Bool) (kd:Int) (d:List Int) (vs:Int) (lcv:List (Nat×LC)):evalF tt (ctOf T43) (lcv) 100 f22 [.agg [.int .i64 k,.view none (.ints .i64 a) a.length 1 none,.view none (.ints .i64 b) b.length 1 none,.view none (.bools c) c.length 1 none,.bool on,.int .i64 kd,.view none (.ints .i64 d) d.length 1 none,.int .i64 vs]] [] [(0,true),(0,true),(0,true),(0,true),(0,true)]=
  some ⟨.c (.bool (bif bif bif bif srS k a b c then kd==0 else false then(↑d.length:Int)==0 else false then vs==0 else false then(↑(versL b c).length:Int)==1 else false)),[],((!on)&&(srS k a b c&&(srS k a b c&&(srS k a b c&&((bif srS k a b c then kd==0 else false)&&((bif srS k a b c then kd==0 else false)&&((bif srS k a b c then kd==0 else false)&&((bif srS k a b c then kd==0 else false)&&((bif bif srS k a b c then kd==0 else false then(↑d.length:Int)==0 else false)&&((bif bif srS k a b c then kd==0 else false then(↑d.length:Int)==0 else false)&&((bif bif srS k a b c then kd==0 else false then(↑d.length:Int)==0 else false)&&((bif bif bif srS k a b c then kd==0 else false then(↑d.length:Int)==0 else false then vs==0 else false)&&((bif bif bif srS k a b c then kd==0 else false then(↑d.length:Int)==0 else false then vs==0 else false)&&((bif bif bif srS k a b c then kd==0 else false then(↑d.length:Int)==0 else false then vs==0 else false)&&(decide (c.length≤8)&&(decide (b.length=c.length)&&((bif bif bif srS k a b c then kd==0 else false then(↑d.length:Int)==0 else false then vs==0 else false)&&((bif bif bif srS k a b c then kd==0 else false then(↑d.length:Int)==0 else false then vs==0 else false)&&true)))))))))))))))))),[]⟩:=by kernel_rfl
theorem x22a_2 (k:Int) (a b:List Int) (c:List Bool) (on:Bool) (kd:Int) (d:List Int) (vs:Int) (lcv:List (Nat×LC)):evalF tt (ctOf T43) (lcv) 100 f22 [.agg [.int .i64 k,.view none (.ints .i64 a) a.length 1 none,.view none (.ints .i64 b) b.length 1 none,.view none (.bools c) c.length 1 none,.bool on,.int .i64 kd,.view none (.ints .i64 d) d.length 1 none,.int .i64 vs]] [] [(0,true),(0,true),(0,true),(0,true),(0,false)]=
  some ⟨.c (.bool false),[],((!on)&&(srS k a b c&&(srS k a b c&&(srS k a b c&&((bif srS k a b c then kd==0 else false)&&((bif srS k a b c then kd==0 else false)&&((bif srS k a b c then kd==0 else false)&&((bif srS k a b c then kd==0 else false)&&((bif bif srS k a b c then kd==0 else false then(↑d.length:Int)==0 else false)&&((bif bif srS k a b c then kd==0 else false then(↑d.length:Int)==0 else false)&&((bif bif srS k a b c then kd==0 else false then(↑d.length:Int)==0 else false)&&((!bif bif bif srS k a b c then kd==0 else false then(↑d.length:Int)==0 else false then vs==0 else false)&&((!bif bif bif srS k a b c then kd==0 else false then(↑d.length:Int)==0 else false then vs==0 else false)&&((!bif bif bif srS k a b c then kd==0 else false then(↑d.length:Int)==0 else false then vs==0 else false)&&((!bif bif bif srS k a b c then kd==0 else false then(↑d.length:Int)==0 else false then vs==0 else false)&&((!bif bif bif srS k a b c then kd==0 else false then(↑d.length:Int)==0 else false then vs==0 else false)&&((!bif bif bif srS k a b c then kd==0 else false then(↑d.length:Int)==0 else false then vs==0 else false)&&true))))))))))))))))),[]⟩:=by kernel_rfl
theorem x22a_3 (k:Int) (a b:List Int) (c:List Bool) (on:Bool) (kd:Int) (d:List Int) (vs:Int) (lcv:List (Nat×LC)):evalF tt (ctOf T43) (lcv) 100 f22 [.agg [.int .i64 k,.view none (.ints .i64 a) a.length 1 none,.view none (.ints .i64 b) b.length 1 none,.view none (.bools c) c.length 1 none,.bool on,.int .i64 kd,.view none (.ints .i64 d) d.length 1 none,.int .i64 vs]] [] [(0,true),(0,true),(0,true),(0,false)]=
  some ⟨.c (.bool false),[],((!on)&&(srS k a b c&&(srS k a b c&&(srS k a b c&&((bif srS k a b c then kd==0 else false)&&((bif srS k a b c then kd==0 else false)&&((bif srS k a b c then kd==0 else false)&&((bif srS k a b c then kd==0 else false)&&((!bif bif srS k a b c then kd==0 else false then(↑d.length:Int)==0 else false)&&((!bif bif srS k a b c then kd==0 else false then(↑d.length:Int)==0 else false)&&((!bif bif srS k a b c then kd==0 else false then(↑d.length:Int)==0 else false)&&((!bif bif srS k a b c then kd==0 else false then(↑d.length:Int)==0 else false)&&true)))))))))))),[]⟩:=by kernel_rfl
theorem x22a_4 (k:Int) (a b:List Int) (c:List Bool) (on:Bool) (kd:Int) (d:List Int) (vs:Int) (lcv:List (Nat×LC)):evalF tt (ctOf T43) (lcv) 100 f22 [.agg [.int .i64 k,.view none (.ints .i64 a) a.length 1 none,.view none (.ints .i64 b) b.length 1 none,.view none (.bools c) c.length 1 none,.bool on,.int .i64 kd,.view none (.ints .i64 d) d.length 1 none,.int .i64 vs]] [] [(0,true),(0,true),(0,false)]=
  some ⟨.c (.bool false),[],((!on)&&(srS k a b c&&(srS k a b c&&(srS k a b c&&((!bif srS k a b c then kd==0 else false)&&((!bif srS k a b c then kd==0 else false)&&((!bif srS k a b c then kd==0 else false)&&((!bif srS k a b c then kd==0 else false)&&((!bif srS k a b c then kd==0 else false)&&true))))))))),[]⟩:=by kernel_rfl
theorem x22a_5 (k:Int) (a b:List Int) (c:List Bool) (on:Bool) (kd:Int) (d:List Int) (vs:Int) (lcv:List (Nat×LC)):evalF tt (ctOf T43) (lcv) 100 f22 [.agg [.int .i64 k,.view none (.ints .i64 a) a.length 1 none,.view none (.ints .i64 b) b.length 1 none,.view none (.bools c) c.length 1 none,.bool on,.int .i64 kd,.view none (.ints .i64 d) d.length 1 none,.int .i64 vs]] [] [(0,true),(0,false)]=
  some ⟨.c (.bool false),[],((!on)&&(!srS k a b c&&(!srS k a b c&&(!srS k a b c&&((!srS k a b c)&&true))))),[]⟩:=by kernel_rfl
theorem x22a_6 (k:Int) (a b:List Int) (c:List Bool) (on:Bool) (kd:Int) (d:List Int) (vs:Int) (lcv:List (Nat×LC)):evalF tt (ctOf T43) (lcv) 100 f22 [.agg [.int .i64 k,.view none (.ints .i64 a) a.length 1 none,.view none (.ints .i64 b) b.length 1 none,.view none (.bools c) c.length 1 none,.bool on,.int .i64 kd,.view none (.ints .i64 d) d.length 1 none,.int .i64 vs]] [] [(0,false),(0,true)]=
  some ⟨.c (.bool false),[],((!!on)&&(decide (d.length≤274877906944)&&(!elsOk d 4&&(!elsOk d 4&&(!elsOk d 4&&(!elsOk d 4&&((!elsOk d 4)&&true))))))),[]⟩:=by kernel_rfl
theorem x22a_7 (k:Int) (a b:List Int) (c:List Bool) (on:Bool) (kd:Int) (d:List Int) (vs:Int) (lcv:List (Nat×LC)):evalF tt (ctOf T43) (lcv) 100 f22 [.agg [.int .i64 k,.view none (.ints .i64 a) a.length 1 none,.view none (.ints .i64 b) b.length 1 none,.view none (.bools c) c.length 1 none,.bool on,.int .i64 kd,.view none (.ints .i64 d) d.length 1 none,.int .i64 vs]] [] [(0,false),(0,false),(0,true)]=
  some ⟨.c (.bool false),[],((!!on)&&(decide (d.length≤274877906944)&&(!!elsOk d 4&&(!!elsOk d 4&&(!!elsOk d 4&&(!!elsOk d 4&&((bif !elsOk d 4 then true else !bet kd 1 2)&&((bif !elsOk d 4 then true else !bet kd 1 2)&&((bif !elsOk d 4 then true else !bet kd 1 2)&&((bif !elsOk d 4 then true else !bet kd 1 2)&&((bif !elsOk d 4 then true else !bet kd 1 2)&&true))))))))))),[]⟩:=by kernel_rfl
theorem x22a_8 (k:Int) (a b:List Int) (c:List Bool) (on:Bool) (kd:Int) (d:List Int) (vs:Int) (lcv:List (Nat×LC)):evalF tt (ctOf T43) (lcv) 100 f22 [.agg [.int .i64 k,.view none (.ints .i64 a) a.length 1 none,.view none (.ints .i64 b) b.length 1 none,.view none (.bools c) c.length 1 none,.bool on,.int .i64 kd,.view none (.ints .i64 d) d.length 1 none,.int .i64 vs]] [] [(0,false),(0,false),(0,false),(0,true)]=
  some ⟨.c (.bool false),[],((!!on)&&(decide (d.length≤274877906944)&&(!!elsOk d 4&&(!!elsOk d 4&&(!!elsOk d 4&&(!!elsOk d 4&&((!bif !elsOk d 4 then true else !bet kd 1 2)&&((!bif !elsOk d 4 then true else !bet kd 1 2)&&((!bif !elsOk d 4 then true else !bet kd 1 2)&&((!bif !elsOk d 4 then true else !bet kd 1 2)&&((bif bif !elsOk d 4 then true else !bet kd 1 2 then true else !bet vs 1 99)&&((bif bif !elsOk d 4 then true else !bet kd 1 2 then true else !bet vs 1 99)&&((bif bif !elsOk d 4 then true else !bet kd 1 2 then true else !bet vs 1 99)&&((bif bif !elsOk d 4 then true else !bet kd 1 2 then true else !bet vs 1 99)&&((bif bif !elsOk d 4 then true else !bet kd 1 2 then true else !bet vs 1 99)&&true))))))))))))))),[]⟩:=by kernel_rfl
theorem x22a_9 (k:Int) (a b:List Int) (c:List Bool) (on:Bool) (kd:Int) (d:List Int) (vs:Int) (lcv:List (Nat×LC)):evalF tt (ctOf T43) (lcv) 100 f22 [.agg [.int .i64 k,.view none (.ints .i64 a) a.length 1 none,.view none (.ints .i64 b) b.length 1 none,.view none (.bools c) c.length 1 none,.bool on,.int .i64 kd,.view none (.ints .i64 d) d.length 1 none,.int .i64 vs]] [] [(0,false),(0,false),(0,false),(0,false),(0,true)]=
  some ⟨.c (.bool false),[],((!!on)&&(decide (d.length≤274877906944)&&(!!elsOk d 4&&(!!elsOk d 4&&(!!elsOk d 4&&(!!elsOk d 4&&((!bif !elsOk d 4 then true else !bet kd 1 2)&&((!bif !elsOk d 4 then true else !bet kd 1 2)&&((!bif !elsOk d 4 then true else !bet kd 1 2)&&((!bif !elsOk d 4 then true else !bet kd 1 2)&&((!bif bif !elsOk d 4 then true else !bet kd 1 2 then true else !bet vs 1 99)&&((!bif bif !elsOk d 4 then true else !bet kd 1 2 then true else !bet vs 1 99)&&((!bif bif !elsOk d 4 then true else !bet kd 1 2 then true else !bet vs 1 99)&&((!bif bif !elsOk d 4 then true else !bet kd 1 2 then true else !bet vs 1 99)&&((bif bif bif !elsOk d 4 then true else !bet kd 1 2 then true else !bet vs 1 99 then true else !shapedB a b c)&&true))))))))))))))),[]⟩:=by kernel_rfl
theorem x22a_10 (k:Int) (a b:List Int) (c:List Bool) (on:Bool) (kd:Int) (d:List Int) (vs:Int) (lcv:List (Nat×LC)):evalF tt (ctOf T43) (lcv) 100 f22 [.agg [.int .i64 k,.view none (.ints .i64 a) a.length 1 none,.view none (.ints .i64 b) b.length 1 none,.view none (.bools c) c.length 1 none,.bool on,.int .i64 kd,.view none (.ints .i64 d) d.length 1 none,.int .i64 vs]] [] [(0,false),(0,false),(0,false),(0,false),(0,false),(0,true)]=
  some ⟨.c (.bool false),[],((!!on)&&(decide (d.length≤274877906944)&&(!!elsOk d 4&&(!!elsOk d 4&&(!!elsOk d 4&&(!!elsOk d 4&&((!bif !elsOk d 4 then true else !bet kd 1 2)&&((!bif !elsOk d 4 then true else !bet kd 1 2)&&((!bif !elsOk d 4 then true else !bet kd 1 2)&&((!bif !elsOk d 4 then true else !bet kd 1 2)&&((!bif bif !elsOk d 4 then true else !bet kd 1 2 then true else !bet vs 1 99)&&((!bif bif !elsOk d 4 then true else !bet kd 1 2 then true else !bet vs 1 99)&&((!bif bif !elsOk d 4 then true else !bet kd 1 2 then true else !bet vs 1 99)&&((!bif bif !elsOk d 4 then true else !bet kd 1 2 then true else !bet vs 1 99)&&((!bif bif bif !elsOk d 4 then true else !bet kd 1 2 then true else !bet vs 1 99 then true else !shapedB a b c)&&(decide (b.length≤274877906944)&&(decide (a.length=b.length)&&(decide (c.length=b.length)&&(decide (a.length=(restL a b c vs).fst.length)&&(decide (b.length=(restL a b c vs).2.1.length)&&(decide (c.length=(restL a b c vs).2.2.length)&&(!sokL k (restL a b c vs).fst (restL a b c vs).2.1 (restL a b c vs).2.2&&(!sokL k (restL a b c vs).fst (restL a b c vs).2.1 (restL a b c vs).2.2&&(!sokL k (restL a b c vs).fst (restL a b c vs).2.1 (restL a b c vs).2.2&&(!sokL k (restL a b c vs).fst (restL a b c vs).2.1 (restL a b c vs).2.2&&((!sokL k (restL a b c vs).fst (restL a b c vs).2.1 (restL a b c vs).2.2)&&true)))))))))))))))))))))))))),[]⟩:=by kernel_rfl
theorem x22a_11 (k:Int) (a b:List Int) (c:List Bool) (on:Bool) (kd:Int) (d:List Int) (vs:Int) (lcv:List (Nat×LC)):evalF tt (ctOf T43) (lcv) 100 f22 [.agg [.int .i64 k,.view none (.ints .i64 a) a.length 1 none,.view none (.ints .i64 b) b.length 1 none,.view none (.bools c) c.length 1 none,.bool on,.int .i64 kd,.view none (.ints .i64 d) d.length 1 none,.int .i64 vs]] [] [(0,false),(0,false),(0,false),(0,false),(0,false),(0,false),(0,true)]=
  some ⟨.c (.bool false),[],((!!on)&&(decide (d.length≤274877906944)&&(!!elsOk d 4&&(!!elsOk d 4&&(!!elsOk d 4&&(!!elsOk d 4&&((!bif !elsOk d 4 then true else !bet kd 1 2)&&((!bif !elsOk d 4 then true else !bet kd 1 2)&&((!bif !elsOk d 4 then true else !bet kd 1 2)&&((!bif !elsOk d 4 then true else !bet kd 1 2)&&((!bif bif !elsOk d 4 then true else !bet kd 1 2 then true else !bet vs 1 99)&&((!bif bif !elsOk d 4 then true else !bet kd 1 2 then true else !bet vs 1 99)&&((!bif bif !elsOk d 4 then true else !bet kd 1 2 then true else !bet vs 1 99)&&((!bif bif !elsOk d 4 then true else !bet kd 1 2 then true else !bet vs 1 99)&&((!bif bif bif !elsOk d 4 then true else !bet kd 1 2 then true else !bet vs 1 99 then true else !shapedB a b c)&&(decide (b.length≤274877906944)&&(decide (a.length=b.length)&&(decide (c.length=b.length)&&(decide (a.length=(restL a b c vs).fst.length)&&(decide (b.length=(restL a b c vs).2.1.length)&&(decide (c.length=(restL a b c vs).2.2.length)&&(!!sokL k (restL a b c vs).fst (restL a b c vs).2.1 (restL a b c vs).2.2&&(!!sokL k (restL a b c vs).fst (restL a b c vs).2.1 (restL a b c vs).2.2&&(decide (a.length=(restL a b c vs).fst.length)&&(decide (b.length=(restL a b c vs).2.1.length)&&(decide (c.length=(restL a b c vs).2.2.length)&&(decide ((restL a b c vs).2.2.length≤8)&&(decide ((restL a b c vs).2.1.length=(restL a b c vs).2.2.length)&&(!!sokL k (restL a b c vs).fst (restL a b c vs).2.1 (restL a b c vs).2.2&&(!!sokL k (restL a b c vs).fst (restL a b c vs).2.1 (restL a b c vs).2.2&&((bif !sokL k (restL a b c vs).fst (restL a b c vs).2.1 (restL a b c vs).2.2 then true else decide ((↑(versL (restL a b c vs).2.1 (restL a b c vs).2.2).length:Int)>1))&&((bif !sokL k (restL a b c vs).fst (restL a b c vs).2.1 (restL a b c vs).2.2 then true else decide ((↑(versL (restL a b c vs).2.1 (restL a b c vs).2.2).length:Int)>1))&&((bif !sokL k (restL a b c vs).fst (restL a b c vs).2.1 (restL a b c vs).2.2 then true else decide ((↑(versL (restL a b c vs).2.1 (restL a b c vs).2.2).length:Int)>1))&&((bif !sokL k (restL a b c vs).fst (restL a b c vs).2.1 (restL a b c vs).2.2 then true else decide ((↑(versL (restL a b c vs).2.1 (restL a b c vs).2.2).length:Int)>1))&&((bif !sokL k (restL a b c vs).fst (restL a b c vs).2.1 (restL a b c vs).2.2 then true else decide ((↑(versL (restL a b c vs).2.1 (restL a b c vs).2.2).length:Int)>1))&&((bif !sokL k (restL a b c vs).fst (restL a b c vs).2.1 (restL a b c vs).2.2 then true else decide ((↑(versL (restL a b c vs).2.1 (restL a b c vs).2.2).length:Int)>1))&&true)))))))))))))))))))))))))))))))))))),[]⟩:=by kernel_rfl
theorem x22a_12 (k:Int) (a b:List Int) (c:List Bool) (on:Bool) (kd:Int) (d:List Int) (vs:Int) (lcv:List (Nat×LC)):evalF tt (ctOf T43) (lcv) 100 f22 [.agg [.int .i64 k,.view none (.ints .i64 a) a.length 1 none,.view none (.ints .i64 b) b.length 1 none,.view none (.bools c) c.length 1 none,.bool on,.int .i64 kd,.view none (.ints .i64 d) d.length 1 none,.int .i64 vs]] [] [(0,false),(0,false),(0,false),(0,false),(0,false),(0,false),(0,false),(0,true)]=
  some ⟨.c (.bool false),[],((!!on)&&(decide (d.length≤274877906944)&&(!!elsOk d 4&&(!!elsOk d 4&&(!!elsOk d 4&&(!!elsOk d 4&&((!bif !elsOk d 4 then true else !bet kd 1 2)&&((!bif !elsOk d 4 then true else !bet kd 1 2)&&((!bif !elsOk d 4 then true else !bet kd 1 2)&&((!bif !elsOk d 4 then true else !bet kd 1 2)&&((!bif bif !elsOk d 4 then true else !bet kd 1 2 then true else !bet vs 1 99)&&((!bif bif !elsOk d 4 then true else !bet kd 1 2 then true else !bet vs 1 99)&&((!bif bif !elsOk d 4 then true else !bet kd 1 2 then true else !bet vs 1 99)&&((!bif bif !elsOk d 4 then true else !bet kd 1 2 then true else !bet vs 1 99)&&((!bif bif bif !elsOk d 4 then true else !bet kd 1 2 then true else !bet vs 1 99 then true else !shapedB a b c)&&(decide (b.length≤274877906944)&&(decide (a.length=b.length)&&(decide (c.length=b.length)&&(decide (a.length=(restL a b c vs).fst.length)&&(decide (b.length=(restL a b c vs).2.1.length)&&(decide (c.length=(restL a b c vs).2.2.length)&&(!!sokL k (restL a b c vs).fst (restL a b c vs).2.1 (restL a b c vs).2.2&&(!!sokL k (restL a b c vs).fst (restL a b c vs).2.1 (restL a b c vs).2.2&&(decide (a.length=(restL a b c vs).fst.length)&&(decide (b.length=(restL a b c vs).2.1.length)&&(decide (c.length=(restL a b c vs).2.2.length)&&(decide ((restL a b c vs).2.2.length≤8)&&(decide ((restL a b c vs).2.1.length=(restL a b c vs).2.2.length)&&(!!sokL k (restL a b c vs).fst (restL a b c vs).2.1 (restL a b c vs).2.2&&(!!sokL k (restL a b c vs).fst (restL a b c vs).2.1 (restL a b c vs).2.2&&((!bif !sokL k (restL a b c vs).fst (restL a b c vs).2.1 (restL a b c vs).2.2 then true else decide ((↑(versL (restL a b c vs).2.1 (restL a b c vs).2.2).length:Int)>1))&&((!bif !sokL k (restL a b c vs).fst (restL a b c vs).2.1 (restL a b c vs).2.2 then true else decide ((↑(versL (restL a b c vs).2.1 (restL a b c vs).2.2).length:Int)>1))&&(decide (a.length=(restL a b c vs).fst.length)&&(decide (b.length=(restL a b c vs).2.1.length)&&(decide (c.length=(restL a b c vs).2.2.length)&&(decide ((restL a b c vs).2.2.length≤8)&&(decide ((restL a b c vs).2.1.length=(restL a b c vs).2.2.length)&&((!bif !sokL k (restL a b c vs).fst (restL a b c vs).2.1 (restL a b c vs).2.2 then true else decide ((↑(versL (restL a b c vs).2.1 (restL a b c vs).2.2).length:Int)>1))&&((!bif !sokL k (restL a b c vs).fst (restL a b c vs).2.1 (restL a b c vs).2.2 then true else decide ((↑(versL (restL a b c vs).2.1 (restL a b c vs).2.2).length:Int)>1))&&((!bif !sokL k (restL a b c vs).fst (restL a b c vs).2.1 (restL a b c vs).2.2 then true else decide ((↑(versL (restL a b c vs).2.1 (restL a b c vs).2.2).length:Int)>1))&&((bif bif !sokL k (restL a b c vs).fst (restL a b c vs).2.1 (restL a b c vs).2.2 then true else decide ((↑(versL (restL a b c vs).2.1 (restL a b c vs).2.2).length:Int)>1)then true else decide (topL (restL a b c vs).2.1 (restL a b c vs).2.2≥vs))&&true))))))))))))))))))))))))))))))))))))))))),[]⟩:=by kernel_rfl
theorem x22a_13 (k:Int) (a b:List Int) (c:List Bool) (on:Bool) (kd:Int) (d:List Int) (vs:Int):evalF tt (ctOf T43) ([(0,⟨liveH f22 0,I22 k a b c on kd d vs (encI kd d) 0,.normal,X22⟩)]) 100 f22 [.agg [.int .i64 k,.view none (.ints .i64 a) a.length 1 none,.view none (.ints .i64 b) b.length 1 none,.view none (.bools c) c.length 1 none,.bool on,.int .i64 kd,.view none (.ints .i64 d) d.length 1 none,.int .i64 vs]] [] [(0,false),(0,false),(0,false),(0,false),(0,false),(0,false),(0,false),(0,false)]=
  some ⟨.c (.bool true),[],((!!on)&&(decide (d.length≤274877906944)&&(!!elsOk d 4&&(!!elsOk d 4&&(!!elsOk d 4&&(!!elsOk d 4&&((!bif !elsOk d 4 then true else !bet kd 1 2)&&((!bif !elsOk d 4 then true else !bet kd 1 2)&&((!bif !elsOk d 4 then true else !bet kd 1 2)&&((!bif !elsOk d 4 then true else !bet kd 1 2)&&((!bif bif !elsOk d 4 then true else !bet kd 1 2 then true else !bet vs 1 99)&&((!bif bif !elsOk d 4 then true else !bet kd 1 2 then true else !bet vs 1 99)&&((!bif bif !elsOk d 4 then true else !bet kd 1 2 then true else !bet vs 1 99)&&((!bif bif !elsOk d 4 then true else !bet kd 1 2 then true else !bet vs 1 99)&&((!bif bif bif !elsOk d 4 then true else !bet kd 1 2 then true else !bet vs 1 99 then true else !shapedB a b c)&&(decide (b.length≤274877906944)&&(decide (a.length=b.length)&&(decide (c.length=b.length)&&(decide (a.length=(restL a b c vs).fst.length)&&(decide (b.length=(restL a b c vs).2.1.length)&&(decide (c.length=(restL a b c vs).2.2.length)&&(!!sokL k (restL a b c vs).fst (restL a b c vs).2.1 (restL a b c vs).2.2&&(!!sokL k (restL a b c vs).fst (restL a b c vs).2.1 (restL a b c vs).2.2&&(decide (a.length=(restL a b c vs).fst.length)&&(decide (b.length=(restL a b c vs).2.1.length)&&(decide (c.length=(restL a b c vs).2.2.length)&&(decide ((restL a b c vs).2.2.length≤8)&&(decide ((restL a b c vs).2.1.length=(restL a b c vs).2.2.length)&&(!!sokL k (restL a b c vs).fst (restL a b c vs).2.1 (restL a b c vs).2.2&&(!!sokL k (restL a b c vs).fst (restL a b c vs).2.1 (restL a b c vs).2.2&&((!bif !sokL k (restL a b c vs).fst (restL a b c vs).2.1 (restL a b c vs).2.2 then true else decide ((↑(versL (restL a b c vs).2.1 (restL a b c vs).2.2).length:Int)>1))&&((!bif !sokL k (restL a b c vs).fst (restL a b c vs).2.1 (restL a b c vs).2.2 then true else decide ((↑(versL (restL a b c vs).2.1 (restL a b c vs).2.2).length:Int)>1))&&(decide (a.length=(restL a b c vs).fst.length)&&(decide (b.length=(restL a b c vs).2.1.length)&&(decide (c.length=(restL a b c vs).2.2.length)&&(decide ((restL a b c vs).2.2.length≤8)&&(decide ((restL a b c vs).2.1.length=(restL a b c vs).2.2.length)&&((!bif !sokL k (restL a b c vs).fst (restL a b c vs).2.1 (restL a b c vs).2.2 then true else decide ((↑(versL (restL a b c vs).2.1 (restL a b c vs).2.2).length:Int)>1))&&((!bif !sokL k (restL a b c vs).fst (restL a b c vs).2.1 (restL a b c vs).2.2 then true else decide ((↑(versL (restL a b c vs).2.1 (restL a b c vs).2.2).length:Int)>1))&&((!bif !sokL k (restL a b c vs).fst (restL a b c vs).2.1 (restL a b c vs).2.2 then true else decide ((↑(versL (restL a b c vs).2.1 (restL a b c vs).2.2).length:Int)>1))&&((!bif bif !sokL k (restL a b c vs).fst (restL a b c vs).2.1 (restL a b c vs).2.2 then true else decide ((↑(versL (restL a b c vs).2.1 (restL a b c vs).2.2).length:Int)>1)then true else decide (topL (restL a b c vs).2.1 (restL a b c vs).2.2≥vs))&&(bet kd 1 2&&(fok (ifI (elsOk d 4) (d.getD 0 0))&&(fok (ifI (elsOk d 4) (d.getD 1 0))&&(fok (ifI (elsOk d 4) (d.getD 2 0))&&((fok (ifI (elsOk d 4) (d.getD 3 0)))&&true)))))))))))))))))))))))))))))))))))))))))))))),[I22 k a b c on kd d vs (encI kd d) 0=I22 k a b c on kd d vs (encI kd d) 0]⟩:=by kernel_rfl
theorem x22b_13 (k:Int) (a b:List Int) (c:List Bool) (on:Bool) (kd:Int) (d:List Int) (vs:Int):evalF tt (ctOf T43) ([(0,⟨liveH f22 0,I22 k a b c on kd d vs (encI kd d) 0,.ret,Y22⟩)]) 100 f22 [.agg [.int .i64 k,.view none (.ints .i64 a) a.length 1 none,.view none (.ints .i64 b) b.length 1 none,.view none (.bools c) c.length 1 none,.bool on,.int .i64 kd,.view none (.ints .i64 d) d.length 1 none,.int .i64 vs]] [] [(0,false),(0,false),(0,false),(0,false),(0,false),(0,false),(0,false),(0,false)]=
  some ⟨.c (.bool false),[],((!!on)&&(decide (d.length≤274877906944)&&(!!elsOk d 4&&(!!elsOk d 4&&(!!elsOk d 4&&(!!elsOk d 4&&((!bif !elsOk d 4 then true else !bet kd 1 2)&&((!bif !elsOk d 4 then true else !bet kd 1 2)&&((!bif !elsOk d 4 then true else !bet kd 1 2)&&((!bif !elsOk d 4 then true else !bet kd 1 2)&&((!bif bif !elsOk d 4 then true else !bet kd 1 2 then true else !bet vs 1 99)&&((!bif bif !elsOk d 4 then true else !bet kd 1 2 then true else !bet vs 1 99)&&((!bif bif !elsOk d 4 then true else !bet kd 1 2 then true else !bet vs 1 99)&&((!bif bif !elsOk d 4 then true else !bet kd 1 2 then true else !bet vs 1 99)&&((!bif bif bif !elsOk d 4 then true else !bet kd 1 2 then true else !bet vs 1 99 then true else !shapedB a b c)&&(decide (b.length≤274877906944)&&(decide (a.length=b.length)&&(decide (c.length=b.length)&&(decide (a.length=(restL a b c vs).fst.length)&&(decide (b.length=(restL a b c vs).2.1.length)&&(decide (c.length=(restL a b c vs).2.2.length)&&(!!sokL k (restL a b c vs).fst (restL a b c vs).2.1 (restL a b c vs).2.2&&(!!sokL k (restL a b c vs).fst (restL a b c vs).2.1 (restL a b c vs).2.2&&(decide (a.length=(restL a b c vs).fst.length)&&(decide (b.length=(restL a b c vs).2.1.length)&&(decide (c.length=(restL a b c vs).2.2.length)&&(decide ((restL a b c vs).2.2.length≤8)&&(decide ((restL a b c vs).2.1.length=(restL a b c vs).2.2.length)&&(!!sokL k (restL a b c vs).fst (restL a b c vs).2.1 (restL a b c vs).2.2&&(!!sokL k (restL a b c vs).fst (restL a b c vs).2.1 (restL a b c vs).2.2&&((!bif !sokL k (restL a b c vs).fst (restL a b c vs).2.1 (restL a b c vs).2.2 then true else decide ((↑(versL (restL a b c vs).2.1 (restL a b c vs).2.2).length:Int)>1))&&((!bif !sokL k (restL a b c vs).fst (restL a b c vs).2.1 (restL a b c vs).2.2 then true else decide ((↑(versL (restL a b c vs).2.1 (restL a b c vs).2.2).length:Int)>1))&&(decide (a.length=(restL a b c vs).fst.length)&&(decide (b.length=(restL a b c vs).2.1.length)&&(decide (c.length=(restL a b c vs).2.2.length)&&(decide ((restL a b c vs).2.2.length≤8)&&(decide ((restL a b c vs).2.1.length=(restL a b c vs).2.2.length)&&((!bif !sokL k (restL a b c vs).fst (restL a b c vs).2.1 (restL a b c vs).2.2 then true else decide ((↑(versL (restL a b c vs).2.1 (restL a b c vs).2.2).length:Int)>1))&&((!bif !sokL k (restL a b c vs).fst (restL a b c vs).2.1 (restL a b c vs).2.2 then true else decide ((↑(versL (restL a b c vs).2.1 (restL a b c vs).2.2).length:Int)>1))&&((!bif !sokL k (restL a b c vs).fst (restL a b c vs).2.1 (restL a b c vs).2.2 then true else decide ((↑(versL (restL a b c vs).2.1 (restL a b c vs).2.2).length:Int)>1))&&((!bif bif !sokL k (restL a b c vs).fst (restL a b c vs).2.1 (restL a b c vs).2.2 then true else decide ((↑(versL (restL a b c vs).2.1 (restL a b c vs).2.2).length:Int)>1)then true else decide (topL (restL a b c vs).2.1 (restL a b c vs).2.2≥vs))&&(bet kd 1 2&&(fok (ifI (elsOk d 4) (d.getD 0 0))&&(fok (ifI (elsOk d 4) (d.getD 1 0))&&(fok (ifI (elsOk d 4) (d.getD 2 0))&&((fok (ifI (elsOk d 4) (d.getD 3 0)))&&true)))))))))))))))))))))))))))))))))))))))))))))),[I22 k a b c on kd d vs (encI kd d) 0=I22 k a b c on kd d vs (encI kd d) 0]⟩:=by kernel_rfl
def ntOk (a b:List Int) (c:List Bool) (vs:Int) (ev:List Int) (i:Nat):Bool:=bif b.getD i 0==vs then c.getD i false&& !(a.getD i 0 !=ev.getD i 0)else true
theorem l22 (k:Int) (a b:List Int) (c:List Bool) (on:Bool) (kd:Int) (d:List Int) (vs:Int) (ev:List Int) (ha:a.length=8) (hb:b.length=8) (hc:c.length=8) (he:ev.length=8):
  Good Tryz.prog 0 (.block 0 (.loop (bodyAt 0 (codeOf f22)))) (I22 k a b c on kd d vs ev 0) fun e t=>e=(bif allR (ntOk a b c vs ev) 8 0 then .normal else .ret)∧t=bif allR (ntOk a b c vs ev) 8 0 then X22 else Y22:=by
 refine Good.all hT t43 hmix 8 (ntOk a b c vs ev) (fun i=>I22 k a b c on kd d vs ev i) X22 Y22 .ret (.inr rfl) (liveH f22 0) (liveB' f22 0) (fun _=>[]) (fun _ _=>LcOk.nil) (fun i hi h=> ?_) (fun i hi h=> ?_)
  ⟨_,_,⟨_,_,r22_5 k a b c on kd d vs ev (8:Nat),by rw[hb];rfl,by simp⟩⟩
 ·unfold ntOk at h
  cases h1:b.getD i 0==vs with
  |true=>
   rw[h1,cond_true,Bool.and_eq_true,Bool.not_eq_true']at h
   obtain⟨h2,h3⟩:=h
   have e:=r22_3 k a b c on kd d vs ev i
   rw[wrap_small (by omega) (by omega),Int.toNat_natCast]at e
   refine⟨_,_,⟨_,_,e, ?_,by simp⟩⟩
   simp only[h1,h2,h3,bS]
   omega
  |false=>
   have e:=r22_4 k a b c on kd d vs ev i
   rw[wrap_small (by omega) (by omega),Int.toNat_natCast]at e
   refine⟨_,_,⟨_,_,e, ?_,by simp⟩⟩
   simp only[h1,bS]
   omega
 ·unfold ntOk at h
  rw[if_neg (by intro h;cases h)]
  cases h1:b.getD i 0==vs with
  |false=>rw[h1]at h;cases h
  |true=>
   rw[h1,cond_true]at h
   cases h2:c.getD i false with
   |false=>
    have e:=r22_1 k a b c on kd d vs ev i
    rw[Int.toNat_natCast]at e
    refine⟨_,_,⟨_,_,e, ?_,by simp⟩⟩
    simp only[h1,h2,bS]
    omega
   |true=>
    rw[h2,Bool.true_and,Bool.not_eq_false']at h
    have e:=r22_2 k a b c on kd d vs ev i
    rw[Int.toNat_natCast]at e
    refine⟨_,_,⟨_,_,e, ?_,by simp⟩⟩
    simp only[h1,h2,h,bS]
    omega
theorem elsOk_fok {v:List Int} {n:Int} (h:elsOk v n=true) (i:Nat):fok (v.getD i 0)=true:=by
 simp only[elsOk,Bool.and_eq_true]at h
 exact allFok_get h.1 i
def rsA (a b:List Int) (c:List Bool) (vs:Int):List Int:=(restL a b c vs).1
def rsB (a b:List Int) (c:List Bool) (vs:Int):List Int:=(restL a b c vs).2.1
def rsC (a b:List Int) (c:List Bool) (vs:Int):List Bool:=(restL a b c vs).2.2
def kokOff (k:Int) (a b:List Int) (c:List Bool) (kd:Int) (d:List Int) (vs:Int):Bool:=srS k a b c&&((kd==0)&&(((d.length:Int)==0)&&((vs==0)&&(((versL b c).length:Int)==1))))
def kokOn (k:Int) (a b:List Int) (c:List Bool) (kd:Int) (d:List Int) (vs:Int):Bool:=
 elsOk d 4&&(bet kd 1 2&&(bet vs 1 99&&(shapedB a b c&&(sokL k (rsA a b c vs) (rsB a b c vs) (rsC a b c vs)&&(!decide (((versL (rsB a b c vs) (rsC a b c vs)).length:Int)>1)&&
  (!decide (topL (rsB a b c vs) (rsC a b c vs)≥vs)&&allR (ntOk a b c vs (encI kd d)) 8 0))))))
def kokL (k:Int) (a b:List Int) (c:List Bool) (on:Bool) (kd:Int) (d:List Int) (vs:Int):Bool:=bif on then kokOn k a b c kd d vs else kokOff k a b c kd d vs
theorem rs_len (a b:List Int) (c:List Bool) (vs:Int):(rsA a b c vs).length=a.length∧(rsB a b c vs).length=b.length∧(rsC a b c vs).length=c.length:=
 runN_inv0 (step:=restS vs) (fun _ s=>s.1.length=a.length∧s.2.1.length=b.length∧s.2.2.length=c.length) b.length (a,b,c) ⟨rfl,rfl,rfl⟩ fun i s _ h=>by
  unfold restS
  cases s.2.1.getD i 0==vs
  ·exact h
  ·simp[h.1,h.2.1,h.2.2]
def FFkok:Model:=fun args h=>
 match args,h with
 |[.agg [.int .i64 k,.view _ (.ints .i64 a) n1 1 _,.view _ (.ints .i64 b) n2 1 _,.view _ (.bools c) n3 1 _,.bool on,.int .i64 kd,.view _ (.ints .i64 d) n4 1 _,.int .i64 vs]],[]=>
  some (.c (.bool (kokL k a b c on kd d vs)),[],[decide (d.length≤274877906944)])
 |_,_=>none
theorem m22:ModelN Tryz.prog 25 FFkok:=by
 intro args h res h' o hnorm he ho
 unfold FFkok at he
 split at he
 case h_2=>cases he
 rename_i k nl1 a n1 cap1 nl2 b n2 cap2 nl3 c n3 cap3 on kd nl4 d n4 cap4 vs
 simp only[Option.some.injEq,Prod.mk.injEq]at he
 obtain⟨rfl,rfl,rfl⟩:=he
 simp only[List.mem_cons,List.not_mem_nil,or_false,forall_eq_or_imp,forall_eq,decide_eq_true_eq]at ho
 have o1:=ho
 simp only[normA,AV.norm,normL,Cell.norm,Con.size,List.cons.injEq,AV.c.injEq,AV.agg.injEq,Cell.view.injEq,nlen_one,true_and,and_true]at hnorm
 obtain⟨⟨rfl,rfl,rfl⟩,⟨rfl,rfl,rfl⟩,⟨rfl,rfl,rfl⟩,rfl,rfl,rfl⟩:=hnorm
 have st: ∀(x:Bool) (p:Path) (ob:Bool),(∀lcv,evalF tt (ctOf T43) lcv 100 f22 [.agg [.int .i64 k,.view none (.ints .i64 a) a.length 1 none,.view none (.ints .i64 b) b.length 1 none,.view none (.bools c) c.length 1 none,.bool on,.int .i64 kd,.view none (.ints .i64 d) d.length 1 none,.int .i64 vs]] [] p=some ⟨.c (.bool x),[],ob,[]⟩)→ob=true→Meets Tryz.prog 25 [.agg [.int .i64 k,.view none (.ints .i64 a) a.length 1 none,.view none (.ints .i64 b) b.length 1 none,.view none (.bools c) c.length 1 none,.bool on,.int .i64 kd,.view none (.ints .i64 d) d.length 1 none,.int .i64 vs]] [] (.c (.bool x)) []:=
  fun x p ob h1 h2=>meets_of t43 (by kernel_rfl) (by kernel_rfl) (h1 []) h2 (by simp) (fun c _=>LcOk.nil)
 cases on with
 |false=>
  show Meets _ _ _ _ (.c (.bool (kokOff k a b c kd d vs))) _
  unfold kokOff
  cases h1:srS k a b c with
  |false=>exact st _ _ _ (x22a_5 k a b c false kd d vs) (by simp only[h1];rfl)
  |true=>
   obtain⟨q1,q2,q3,q4,q5⟩:=sok_shape (k:=k) (a:=a) (b:=b) (c:=c) (by
    unfold srS at h1
    cases h:sokL k a b c with
    |true=>rfl
    |false=>rw[h]at h1;cases h1)
   cases h2:kd==0 with
   |false=>exact st _ _ _ (x22a_4 k a b c false kd d vs) (by simp only[h1,h2];rfl)
   |true=>
    cases h3:(d.length:Int)==0 with
    |false=>exact st _ _ _ (x22a_3 k a b c false kd d vs) (by simp only[h1,h2,h3];rfl)
    |true=>
     cases h4:vs==0 with
     |false=>exact st _ _ _ (x22a_2 k a b c false kd d vs) (by simp only[h1,h2,h3,h4];rfl)
     |true=>
      have e:=x22a_1 k a b c false kd d vs
      simp only[h1,h2,h3,h4,cond_true]at e
      exact st _ _ _ e (by simp only[q2,q3,q4,bS];omega)
 |true=>
  show Meets _ _ _ _ (.c (.bool (kokOn k a b c kd d vs))) _
  unfold kokOn
  obtain⟨z1,z2,z3⟩:=rs_len a b c vs
  dsimp only[rsA,rsB,rsC]at z1 z2 z3
  cases h1:elsOk d 4 with
  |false=>exact st _ _ _ (x22a_6 k a b c true kd d vs) (by simp only[h1,bS];exact o1)
  |true=>
   cases h2:bet kd 1 2 with
   |false=>exact st _ _ _ (x22a_7 k a b c true kd d vs) (by simp only[h1,h2,bS];exact o1)
   |true=>
    cases h3:bet vs 1 99 with
    |false=>exact st _ _ _ (x22a_8 k a b c true kd d vs) (by simp only[h1,h2,h3,bS];exact o1)
    |true=>
     cases h4:shapedB a b c with
     |false=>exact st _ _ _ (x22a_9 k a b c true kd d vs) (by simp only[h1,h2,h3,h4,bS];exact o1)
     |true=>
      obtain⟨ha,hb,hc⟩:=shapedB_iff.1 h4
      cases h5:sokL k (rsA a b c vs) (rsB a b c vs) (rsC a b c vs)with
      |false=>exact st _ _ _ (x22a_10 k a b c true kd d vs) (by
        have h5:sokL k (restL a b c vs).1 (restL a b c vs).2.1 (restL a b c vs).2.2=false:=h5
        simp only[h1,h2,h3,h4,h5,bS];omega)
      |true=>
       cases h6:decide (((versL (rsB a b c vs) (rsC a b c vs)).length:Int)>1)with
       |true=>exact st _ _ _ (x22a_11 k a b c true kd d vs) (by
         have h5:sokL k (restL a b c vs).1 (restL a b c vs).2.1 (restL a b c vs).2.2=true:=h5
         have h6:decide (((versL (restL a b c vs).2.1 (restL a b c vs).2.2).length:Int)>1)=true:=h6
         simp only[h1,h2,h3,h4,h5,h6,bS];omega)
       |false=>
        cases h7:decide (topL (rsB a b c vs) (rsC a b c vs)≥vs)with
        |true=>exact st _ _ _ (x22a_12 k a b c true kd d vs) (by
         have h5:sokL k (restL a b c vs).1 (restL a b c vs).2.1 (restL a b c vs).2.2=true:=h5
         have h6:decide (((versL (restL a b c vs).2.1 (restL a b c vs).2.2).length:Int)>1)=false:=h6
         have h7:decide (topL (restL a b c vs).2.1 (restL a b c vs).2.2≥vs)=true:=h7
         simp only[h1,h2,h3,h4,h5,h6,h7,bS];omega)
        |false=>
         have g:=l22 k a b c true kd d vs (encI kd d) ha hb hc rfl
         have hf:=elsOk_fok h1
         cases h8:allR (ntOk a b c vs (encI kd d)) 8 0 with
         |true=>
          rw[h8]at g
          exact meets_of t43 (by kernel_rfl) (by kernel_rfl) (x22a_13 k a b c true kd d vs) (by
           have h5:sokL k (restL a b c vs).1 (restL a b c vs).2.1 (restL a b c vs).2.2=true:=h5
           have h6:decide (((versL (restL a b c vs).2.1 (restL a b c vs).2.2).length:Int)>1)=false:=h6
           have h7:decide (topL (restL a b c vs).2.1 (restL a b c vs).2.2≥vs)=false:=h7
           simp only[h1,h2,h3,h4,h5,h6,h7,ifI,hf,bS];omega) (by simp) (fun cc hcc=>LcOk.cons (c:=cc) (by cases hcc;kernel_rfl) (by cases hcc;exact g) LcOk.nil)
         |false=>
          rw[h8]at g
          exact meets_of t43 (by kernel_rfl) (by kernel_rfl) (x22b_13 k a b c true kd d vs) (by
           have h5:sokL k (restL a b c vs).1 (restL a b c vs).2.1 (restL a b c vs).2.2=true:=h5
           have h6:decide (((versL (restL a b c vs).2.1 (restL a b c vs).2.2).length:Int)>1)=false:=h6
           have h7:decide (topL (restL a b c vs).2.1 (restL a b c vs).2.2≥vs)=false:=h7
           simp only[h1,h2,h3,h4,h5,h6,h7,ifI,hf,bS];omega) (by simp) (fun cc hcc=>LcOk.cons (c:=cc) (by cases hcc;kernel_rfl) (by cases hcc;exact g) LcOk.nil)
end Go.Proofs.YthapjdpkelihiaaGreat.Am
end
section
namespace Go.Proofs.YthapjdpkelihiaaGreat.Am
noncomputable def T44:List Entry:=[⟨25,[],nm FFkok⟩]++T43
theorem e44:EntriesOk Tryz.prog T44:=by
 refine EntriesOk.append ?_ e43
 intro e he
 simp only[List.mem_cons,List.not_mem_nil,or_false]at he
 subst he;exact m22.ok
theorem t44:CtOk Tryz.prog (ctOf T44):=ctOf_ok e44
structure PK where
 k:Int
 a:List Int
 b:List Int
 c:List Bool
 on:Bool
 kd:Int
 d:List Int
 vs:Int
def PK.cells (x:PK):List Cell:=[.int .i64 x.k,.sl 0 0 x.a.length 1 none,.sl 1 0 x.b.length 1 none,.sl 2 0 x.c.length 1 none,.bool x.on,.int .i64 x.kd,.sl 3 0 x.d.length 1 none,.int .i64 x.vs]
def PK.heap (x:PK):List Slot:=[.live (.ints .i64 x.a),.live (.ints .i64 x.b),.live (.bools x.c),.live (.ints .i64 x.d)]
def PK.ok (x:PK):Bool:=kokL x.k x.a x.b x.c x.on x.kd x.d x.vs
def PK0:PK:=⟨0,[],[],[],false,0,[],0⟩
theorem zeroA {P:Program} {f:FuncId} {args:List AV} {h:List Slot} (hm:Meets P f args [] (.agg [.int .i64 0,.nils,.nils,.nils,.bool false,.int .i64 0,.nils,.int .i64 0]) []):Meets P f args [] (.agg PK0.cells) PK0.heap:=
 (((hm.nil1 (es:=1) (c0:=.ints .i64 []) rfl rfl).nil1 (es:=1) (c0:=.ints .i64 []) rfl rfl).nil1 (es:=1) (c0:=.bools []) rfl rfl).nil1 (es:=1) (c0:=.ints .i64 []) rfl rfl
theorem zeroT {P:Program} {f:FuncId} {args:List AV} {b:Bool} (hm:Meets P f args [] (.tup [.agg [.int .i64 0,.nils,.nils,.nils,.bool false,.int .i64 0,.nils,.int .i64 0],.c (.bool b)]) []):Meets P f args [] (.tup [.agg PK0.cells,.c (.bool b)]) PK0.heap:=
 (((hm.nil1 (es:=1) (c0:=.ints .i64 []) rfl rfl).nil1 (es:=1) (c0:=.ints .i64 []) rfl rfl).nil1 (es:=1) (c0:=.bools []) rfl rfl).nil1 (es:=1) (c0:=.ints .i64 []) rfl rfl
theorem kok_shape {k:Int} {a b:List Int} {c:List Bool} {on:Bool} {kd:Int} {d:List Int} {vs:Int} (h:kokL k a b c on kd d vs=true):a.length=8∧b.length=8∧c.length=8:=by
 unfold kokL at h
 cases on with
 |true=>
  simp only[cond_true,kokOn,Bool.and_eq_true]at h
  exact shapedB_iff.1 h.2.2.2.1
 |false=>
  simp only[cond_false,kokOff,Bool.and_eq_true]at h
  have h1:=h.1
  unfold srS at h1
  cases hs:sokL k a b c with
  |true=>exact⟨(sok_shape hs).2.1,(sok_shape hs).2.2.1,(sok_shape hs).2.2.2.1⟩
  |false=>rw[hs]at h1;cases h1
theorem kok_off {k:Int} {a b:List Int} {c:List Bool} {on:Bool} {kd:Int} {d:List Int} {vs:Int} (h:kokL k a b c on kd d vs=true) (ho:on=false):sokL k a b c=true∧d=[]∧kd=0∧vs=0:=by
 subst ho
 simp only[kokL,cond_false,kokOff,Bool.and_eq_true,beq_iff_eq]at h
 obtain⟨h1,h2,h3,h4,h5⟩:=h
 unfold srS at h1
 refine⟨?_,List.eq_nil_of_length_eq_zero (by omega),h2,h4⟩
 cases hs:sokL k a b c with
 |true=>rfl
 |false=>rw[hs]at h1;cases h1
theorem kok_on {k:Int} {a b:List Int} {c:List Bool} {on:Bool} {kd:Int} {d:List Int} {vs:Int} (h:kokL k a b c on kd d vs=true) (ho:on=true):elsOk d 4=true∧bet kd 1 2=true∧bet vs 1 99=true:=by
 subst ho
 simp only[kokL,cond_true,kokOn,Bool.and_eq_true]at h
 exact⟨h.1,h.2.1,h.2.2.1⟩
def krD (k:Int) (a b:List Int) (c:List Bool) (on:Bool) (kd:Int) (d:List Int) (vs:Int):List Int:=bif kokL k a b c on kd d vs then(bif on then d else rdD k a b c)else []
def krB (k:Int) (a b:List Int) (c:List Bool) (on:Bool) (kd:Int) (d:List Int) (vs:Int):Bool:=bif kokL k a b c on kd d vs then(bif on then true else rdS k a b c)else false
theorem x20_1 (k:Int) (a b:List Int) (c:List Bool) (on:Bool) (kd:Int) (d:List Int) (vs:Int):evalF tt (ctOf T44) ([]) 100 Tryz.f20 [.agg [.int .i64 k,.view none (.ints .i64 a) a.length 1 none,.view none (.ints .i64 b) b.length 1 none,.view none (.bools c) c.length 1 none,.bool on,.int .i64 kd,.view none (.ints .i64 d) d.length 1 none,.int .i64 vs]] [] [(0,true)]=
  some ⟨.tup [.c .nils,.c (.bool false)],[],(decide (d.length≤274877906944)&&((!kokL k a b c on kd d vs)&&true)),[]⟩:=by kernel_rfl
theorem x20_2 (k:Int) (a b:List Int) (c:List Bool) (on:Bool) (kd:Int) (d:List Int) (vs:Int):evalF tt (ctOf T44) ([]) 100 Tryz.f20 [.agg [.int .i64 k,.view none (.ints .i64 a) a.length 1 none,.view none (.ints .i64 b) b.length 1 none,.view none (.bools c) c.length 1 none,.bool on,.int .i64 kd,.view none (.ints .i64 d) d.length 1 none,.int .i64 vs]] [] [(0,false),(0,true)]=
  some ⟨.tup [.c (.sl 0 0 (↑d.length:Int).toNat 1 none),.c (.bool true)],[.live (.ints .i64 d)],(decide (d.length≤274877906944)&&(!!kokL k a b c on kd d vs&&((on)&&(decide (d.length≤274877906944)&&((decide ((↑d.length:Int)≤(↑d.length:Int))&&(decide ((↑d.length:Int)≤(↑d.length:Int))&&true))&&true))))),[]⟩:=by kernel_rfl
theorem x20_3 (k:Int) (a b:List Int) (c:List Bool) (on:Bool) (kd:Int) (d:List Int) (vs:Int):evalF tt (ctOf T44) ([]) 100 Tryz.f20 [.agg [.int .i64 k,.view none (.ints .i64 a) a.length 1 none,.view none (.ints .i64 b) b.length 1 none,.view none (.bools c) c.length 1 none,.bool on,.int .i64 kd,.view none (.ints .i64 d) d.length 1 none,.int .i64 vs]] [] [(0,false),(0,false)]=
  some ⟨.tup [.c (.sl 0 0 (rdD k a b c).length 1 none),.c (.bool (rdS k a b c))],[.live (.ints .i64 (rdD k a b c))],(decide (d.length≤274877906944)&&(!!kokL k a b c on kd d vs&&((!on)&&(decide (c.length=8)&&(decide (b.length=8)&&(decide (a.length=8)&&(bet k 1 2&&((allFok a)&&true)))))))),[]⟩:=by kernel_rfl
def FFkread:Model:=fun args h=>
 match args,h with
 |[.agg [.int .i64 k,.view _ (.ints .i64 a) n1 1 _,.view _ (.ints .i64 b) n2 1 _,.view _ (.bools c) n3 1 _,.bool on,.int .i64 kd,.view _ (.ints .i64 d) n4 1 _,.int .i64 vs]],[]=>
  some (.tup [.c (.sl 0 0 (krD k a b c on kd d vs).length 1 none),.c (.bool (krB k a b c on kd d vs))],[.live (.ints .i64 (krD k a b c on kd d vs))],[decide (d.length≤274877906944)])
 |_,_=>none
theorem m20:ModelN Tryz.prog 20 FFkread:=by
 intro args h res h' o hnorm he ho
 unfold FFkread at he
 split at he
 case h_2=>cases he
 rename_i k nl1 a n1 cap1 nl2 b n2 cap2 nl3 c n3 cap3 on kd nl4 d n4 cap4 vs
 simp only[Option.some.injEq,Prod.mk.injEq]at he
 obtain⟨rfl,rfl,rfl⟩:=he
 simp only[List.mem_cons,List.not_mem_nil,or_false,forall_eq_or_imp,forall_eq,decide_eq_true_eq]at ho
 have o1:=ho
 simp only[normA,AV.norm,normL,Cell.norm,Con.size,List.cons.injEq,AV.c.injEq,AV.agg.injEq,Cell.view.injEq,nlen_one,true_and,and_true]at hnorm
 obtain⟨⟨rfl,rfl,rfl⟩,⟨rfl,rfl,rfl⟩,⟨rfl,rfl,rfl⟩,rfl,rfl,rfl⟩:=hnorm
 unfold krD krB
 cases h:kokL k a b c on kd d vs with
 |false=>exact Meets.nilTup (h':=[]) (c0:=.ints .i64 []) (meets_of t44 (by kernel_rfl) (by kernel_rfl) (x20_1 k a b c on kd d vs) (by simp only[h,o1];rfl) (by simp) (fun cc _=>LcOk.nil)) rfl
 |true=>
  obtain⟨ha,hb,hc⟩:=kok_shape h
  cases ho:on with
  |true=>subst ho;exact meets_of t44 (by kernel_rfl) (by kernel_rfl) (x20_2 k a b c true kd d vs) (by simp[h,o1]) (by simp) (fun cc _=>LcOk.nil)
  |false=>
   obtain⟨hs,-,-,-⟩:=kok_off h ho
   obtain⟨q1,q2,q3,q4,q5⟩:=sok_shape hs
   subst ho
   exact meets_of t44 (by kernel_rfl) (by kernel_rfl) (x20_3 k a b c false kd d vs) (by simp[h,o1,q1,q2,q3,q4,q5]) (by simp) (fun cc _=>LcOk.nil)
def rep8 {α:Type} (x:α):List α:=[x,x,x,x,x,x,x,x]
def redoK (x:PK):PK:=bif x.ok then(bif x.on then⟨x.kd,encI x.kd x.d,rep8 x.vs,rep8 true,false,0,[],0⟩else x)else PK0
theorem set8 {α:Type} {a:List α} (h:a.length=8) (x0 x1 x2 x3 x4 x5 x6 x7:α):((((((((a.set 0 x0).set 1 x1).set 2 x2).set 3 x3).set 4 x4).set 5 x5).set 6 x6).set 7 x7)=[x0,x1,x2,x3,x4,x5,x6,x7]:=by
 match a,h with
 |[_,_,_,_,_,_,_,_],_=>rfl
theorem x16_1 (k:Int) (a b:List Int) (c:List Bool) (on:Bool) (kd:Int) (d:List Int) (vs:Int):evalF tt (ctOf T44) ([]) 100 Tryz.f21 [.agg [.int .i64 k,.view none (.ints .i64 a) a.length 1 none,.view none (.ints .i64 b) b.length 1 none,.view none (.bools c) c.length 1 none,.bool on,.int .i64 kd,.view none (.ints .i64 d) d.length 1 none,.int .i64 vs]] [] [(0,true)]=
  some ⟨.agg [.int .i64 0,.nils,.nils,.nils,.bool false,.int .i64 0,.nils,.int .i64 0],[],(decide (d.length≤274877906944)&&((!kokL k a b c on kd d vs)&&true)),[]⟩:=by kernel_rfl
theorem x16_2 (k:Int) (a b:List Int) (c:List Bool) (on:Bool) (kd:Int) (d:List Int) (vs:Int):evalF tt (ctOf T44) ([]) 100 Tryz.f21 [.agg [.int .i64 k,.view none (.ints .i64 a) a.length 1 none,.view none (.ints .i64 b) b.length 1 none,.view none (.bools c) c.length 1 none,.bool on,.int .i64 kd,.view none (.ints .i64 d) d.length 1 none,.int .i64 vs]] [] [(0,false),(0,true)]=
  some ⟨.agg [.int .i64 k,.sl 0 0 a.length 1 none,.sl 1 0 b.length 1 none,.sl 2 0 c.length 1 none,.bool on,.int .i64 kd,.sl 3 0 d.length 1 none,.int .i64 vs],[.live (.ints .i64 a),.live (.ints .i64 b),.live (.bools c),.live (.ints .i64 d)],(decide (d.length≤274877906944)&&(!!kokL k a b c on kd d vs&&(decide (a.length≤274877906944)&&(decide (b.length≤274877906944)&&(decide (c.length≤274877906944)&&(decide (d.length≤274877906944)&&((!on)&&true))))))),[]⟩:=by kernel_rfl
theorem x16_3 (k:Int) (a b:List Int) (c:List Bool) (on:Bool) (kd:Int) (d:List Int) (vs:Int):evalF tt (ctOf T44) ([]) 100 Tryz.f21 [.agg [.int .i64 k,.view none (.ints .i64 a) a.length 1 none,.view none (.ints .i64 b) b.length 1 none,.view none (.bools c) c.length 1 none,.bool on,.int .i64 kd,.view none (.ints .i64 d) d.length 1 none,.int .i64 vs]] [] [(0,false),(0,false)]=
  some ⟨.agg [.int .i64 kd,.sl 0 0 a.length 1 none,.sl 1 0 b.length 1 none,.sl 2 0 c.length 1 none,.bool false,.int .i64 0,.nils,.int .i64 0],[.live (.ints .i64 ((((((((a.set 0 (encE kd [ifI (elsOk d 4) (d.getD 0 0),ifI (elsOk d 4) (d.getD 1 0),ifI (elsOk d 4) (d.getD 2 0),ifI (elsOk d 4) (d.getD 3 0)] 0)).set 1 (encE kd [ifI (elsOk d 4) (d.getD 0 0),ifI (elsOk d 4) (d.getD 1 0),ifI (elsOk d 4) (d.getD 2 0),ifI (elsOk d 4) (d.getD 3 0)] 1)).set 2 (encE kd [ifI (elsOk d 4) (d.getD 0 0),ifI (elsOk d 4) (d.getD 1 0),ifI (elsOk d 4) (d.getD 2 0),ifI (elsOk d 4) (d.getD 3 0)] 2)).set 3 (encE kd [ifI (elsOk d 4) (d.getD 0 0),ifI (elsOk d 4) (d.getD 1 0),ifI (elsOk d 4) (d.getD 2 0),ifI (elsOk d 4) (d.getD 3 0)] 3)).set 4 (encE kd [ifI (elsOk d 4) (d.getD 0 0),ifI (elsOk d 4) (d.getD 1 0),ifI (elsOk d 4) (d.getD 2 0),ifI (elsOk d 4) (d.getD 3 0)] 4)).set 5 (encE kd [ifI (elsOk d 4) (d.getD 0 0),ifI (elsOk d 4) (d.getD 1 0),ifI (elsOk d 4) (d.getD 2 0),ifI (elsOk d 4) (d.getD 3 0)] 5)).set 6 (encE kd [ifI (elsOk d 4) (d.getD 0 0),ifI (elsOk d 4) (d.getD 1 0),ifI (elsOk d 4) (d.getD 2 0),ifI (elsOk d 4) (d.getD 3 0)] 6)).set 7 (encE kd [ifI (elsOk d 4) (d.getD 0 0),ifI (elsOk d 4) (d.getD 1 0),ifI (elsOk d 4) (d.getD 2 0),ifI (elsOk d 4) (d.getD 3 0)] 7))),.live (.ints .i64 ((((((((b.set 0 vs).set 1 vs).set 2 vs).set 3 vs).set 4 vs).set 5 vs).set 6 vs).set 7 vs)),.live (.bools ((((((((c.set 0 true).set 1 true).set 2 true).set 3 true).set 4 true).set 5 true).set 6 true).set 7 true))],(decide (d.length≤274877906944)&&(!!kokL k a b c on kd d vs&&(decide (a.length≤274877906944)&&(decide (b.length≤274877906944)&&(decide (c.length≤274877906944)&&(decide (d.length≤274877906944)&&((!!on)&&((decide (d.length=d.length)&&(decide (d.length≤274877906944)&&(bet kd 1 2&&(fok (ifI (elsOk d 4) (d.getD 0 0))&&(fok (ifI (elsOk d 4) (d.getD 1 0))&&(fok (ifI (elsOk d 4) (d.getD 2 0))&&(fok (ifI (elsOk d 4) (d.getD 3 0))&&(decide (0<(↑a.length:Int))&&(decide (0<a.length)&&(decide (0<(↑b.length:Int))&&(decide (0<b.length)&&(decide (0<(↑c.length:Int))&&(decide (0<c.length)&&true)))))&&true))))))))&&((decide (d.length=d.length)&&(decide (d.length≤274877906944)&&(bet kd 1 2&&(fok (ifI (elsOk d 4) (d.getD 0 0))&&(fok (ifI (elsOk d 4) (d.getD 1 0))&&(fok (ifI (elsOk d 4) (d.getD 2 0))&&(fok (ifI (elsOk d 4) (d.getD 3 0))&&(decide (1<(↑a.length:Int))&&(decide (1<(a.set 0 (encE kd [ifI (elsOk d 4) (d.getD 0 0),ifI (elsOk d 4) (d.getD 1 0),ifI (elsOk d 4) (d.getD 2 0),ifI (elsOk d 4) (d.getD 3 0)] 0)).length)&&(decide (1<(↑b.length:Int))&&(decide (1<(b.set 0 vs).length)&&(decide (1<(↑c.length:Int))&&(decide (1<(c.set 0 true).length)&&true)))))&&true))))))))&&((decide (d.length=d.length)&&(decide (d.length≤274877906944)&&(bet kd 1 2&&(fok (ifI (elsOk d 4) (d.getD 0 0))&&(fok (ifI (elsOk d 4) (d.getD 1 0))&&(fok (ifI (elsOk d 4) (d.getD 2 0))&&(fok (ifI (elsOk d 4) (d.getD 3 0))&&(decide (2<(↑a.length:Int))&&(decide (2<((a.set 0 (encE kd [ifI (elsOk d 4) (d.getD 0 0),ifI (elsOk d 4) (d.getD 1 0),ifI (elsOk d 4) (d.getD 2 0),ifI (elsOk d 4) (d.getD 3 0)] 0)).set 1 (encE kd [ifI (elsOk d 4) (d.getD 0 0),ifI (elsOk d 4) (d.getD 1 0),ifI (elsOk d 4) (d.getD 2 0),ifI (elsOk d 4) (d.getD 3 0)] 1)).length)&&(decide (2<(↑b.length:Int))&&(decide (2<((b.set 0 vs).set 1 vs).length)&&(decide (2<(↑c.length:Int))&&(decide (2<((c.set 0 true).set 1 true).length)&&true)))))&&true))))))))&&((decide (d.length=d.length)&&(decide (d.length≤274877906944)&&(bet kd 1 2&&(fok (ifI (elsOk d 4) (d.getD 0 0))&&(fok (ifI (elsOk d 4) (d.getD 1 0))&&(fok (ifI (elsOk d 4) (d.getD 2 0))&&(fok (ifI (elsOk d 4) (d.getD 3 0))&&(decide (3<(↑a.length:Int))&&(decide (3<(((a.set 0 (encE kd [ifI (elsOk d 4) (d.getD 0 0),ifI (elsOk d 4) (d.getD 1 0),ifI (elsOk d 4) (d.getD 2 0),ifI (elsOk d 4) (d.getD 3 0)] 0)).set 1 (encE kd [ifI (elsOk d 4) (d.getD 0 0),ifI (elsOk d 4) (d.getD 1 0),ifI (elsOk d 4) (d.getD 2 0),ifI (elsOk d 4) (d.getD 3 0)] 1)).set 2 (encE kd [ifI (elsOk d 4) (d.getD 0 0),ifI (elsOk d 4) (d.getD 1 0),ifI (elsOk d 4) (d.getD 2 0),ifI (elsOk d 4) (d.getD 3 0)] 2)).length)&&(decide (3<(↑b.length:Int))&&(decide (3<(((b.set 0 vs).set 1 vs).set 2 vs).length)&&(decide (3<(↑c.length:Int))&&(decide (3<(((c.set 0 true).set 1 true).set 2 true).length)&&true)))))&&true))))))))&&((decide (d.length=d.length)&&(decide (d.length≤274877906944)&&(bet kd 1 2&&(fok (ifI (elsOk d 4) (d.getD 0 0))&&(fok (ifI (elsOk d 4) (d.getD 1 0))&&(fok (ifI (elsOk d 4) (d.getD 2 0))&&(fok (ifI (elsOk d 4) (d.getD 3 0))&&(decide (4<(↑a.length:Int))&&(decide (4<((((a.set 0 (encE kd [ifI (elsOk d 4) (d.getD 0 0),ifI (elsOk d 4) (d.getD 1 0),ifI (elsOk d 4) (d.getD 2 0),ifI (elsOk d 4) (d.getD 3 0)] 0)).set 1 (encE kd [ifI (elsOk d 4) (d.getD 0 0),ifI (elsOk d 4) (d.getD 1 0),ifI (elsOk d 4) (d.getD 2 0),ifI (elsOk d 4) (d.getD 3 0)] 1)).set 2 (encE kd [ifI (elsOk d 4) (d.getD 0 0),ifI (elsOk d 4) (d.getD 1 0),ifI (elsOk d 4) (d.getD 2 0),ifI (elsOk d 4) (d.getD 3 0)] 2)).set 3 (encE kd [ifI (elsOk d 4) (d.getD 0 0),ifI (elsOk d 4) (d.getD 1 0),ifI (elsOk d 4) (d.getD 2 0),ifI (elsOk d 4) (d.getD 3 0)] 3)).length)&&(decide (4<(↑b.length:Int))&&(decide (4<((((b.set 0 vs).set 1 vs).set 2 vs).set 3 vs).length)&&(decide (4<(↑c.length:Int))&&(decide (4<((((c.set 0 true).set 1 true).set 2 true).set 3 true).length)&&true)))))&&true))))))))&&((decide (d.length=d.length)&&(decide (d.length≤274877906944)&&(bet kd 1 2&&(fok (ifI (elsOk d 4) (d.getD 0 0))&&(fok (ifI (elsOk d 4) (d.getD 1 0))&&(fok (ifI (elsOk d 4) (d.getD 2 0))&&(fok (ifI (elsOk d 4) (d.getD 3 0))&&(decide (5<(↑a.length:Int))&&(decide (5<(((((a.set 0 (encE kd [ifI (elsOk d 4) (d.getD 0 0),ifI (elsOk d 4) (d.getD 1 0),ifI (elsOk d 4) (d.getD 2 0),ifI (elsOk d 4) (d.getD 3 0)] 0)).set 1 (encE kd [ifI (elsOk d 4) (d.getD 0 0),ifI (elsOk d 4) (d.getD 1 0),ifI (elsOk d 4) (d.getD 2 0),ifI (elsOk d 4) (d.getD 3 0)] 1)).set 2 (encE kd [ifI (elsOk d 4) (d.getD 0 0),ifI (elsOk d 4) (d.getD 1 0),ifI (elsOk d 4) (d.getD 2 0),ifI (elsOk d 4) (d.getD 3 0)] 2)).set 3 (encE kd [ifI (elsOk d 4) (d.getD 0 0),ifI (elsOk d 4) (d.getD 1 0),ifI (elsOk d 4) (d.getD 2 0),ifI (elsOk d 4) (d.getD 3 0)] 3)).set 4 (encE kd [ifI (elsOk d 4) (d.getD 0 0),ifI (elsOk d 4) (d.getD 1 0),ifI (elsOk d 4) (d.getD 2 0),ifI (elsOk d 4) (d.getD 3 0)] 4)).length)&&(decide (5<(↑b.length:Int))&&(decide (5<(((((b.set 0 vs).set 1 vs).set 2 vs).set 3 vs).set 4 vs).length)&&(decide (5<(↑c.length:Int))&&(decide (5<(((((c.set 0 true).set 1 true).set 2 true).set 3 true).set 4 true).length)&&true)))))&&true))))))))&&((decide (d.length=d.length)&&(decide (d.length≤274877906944)&&(bet kd 1 2&&(fok (ifI (elsOk d 4) (d.getD 0 0))&&(fok (ifI (elsOk d 4) (d.getD 1 0))&&(fok (ifI (elsOk d 4) (d.getD 2 0))&&(fok (ifI (elsOk d 4) (d.getD 3 0))&&(decide (6<(↑a.length:Int))&&(decide (6<((((((a.set 0 (encE kd [ifI (elsOk d 4) (d.getD 0 0),ifI (elsOk d 4) (d.getD 1 0),ifI (elsOk d 4) (d.getD 2 0),ifI (elsOk d 4) (d.getD 3 0)] 0)).set 1 (encE kd [ifI (elsOk d 4) (d.getD 0 0),ifI (elsOk d 4) (d.getD 1 0),ifI (elsOk d 4) (d.getD 2 0),ifI (elsOk d 4) (d.getD 3 0)] 1)).set 2 (encE kd [ifI (elsOk d 4) (d.getD 0 0),ifI (elsOk d 4) (d.getD 1 0),ifI (elsOk d 4) (d.getD 2 0),ifI (elsOk d 4) (d.getD 3 0)] 2)).set 3 (encE kd [ifI (elsOk d 4) (d.getD 0 0),ifI (elsOk d 4) (d.getD 1 0),ifI (elsOk d 4) (d.getD 2 0),ifI (elsOk d 4) (d.getD 3 0)] 3)).set 4 (encE kd [ifI (elsOk d 4) (d.getD 0 0),ifI (elsOk d 4) (d.getD 1 0),ifI (elsOk d 4) (d.getD 2 0),ifI (elsOk d 4) (d.getD 3 0)] 4)).set 5 (encE kd [ifI (elsOk d 4) (d.getD 0 0),ifI (elsOk d 4) (d.getD 1 0),ifI (elsOk d 4) (d.getD 2 0),ifI (elsOk d 4) (d.getD 3 0)] 5)).length)&&(decide (6<(↑b.length:Int))&&(decide (6<((((((b.set 0 vs).set 1 vs).set 2 vs).set 3 vs).set 4 vs).set 5 vs).length)&&(decide (6<(↑c.length:Int))&&(decide (6<((((((c.set 0 true).set 1 true).set 2 true).set 3 true).set 4 true).set 5 true).length)&&true)))))&&true))))))))&&((decide (d.length=d.length)&&(decide (d.length≤274877906944)&&(bet kd 1 2&&(fok (ifI (elsOk d 4) (d.getD 0 0))&&(fok (ifI (elsOk d 4) (d.getD 1 0))&&(fok (ifI (elsOk d 4) (d.getD 2 0))&&(fok (ifI (elsOk d 4) (d.getD 3 0))&&(decide (7<(↑a.length:Int))&&(decide (7<(((((((a.set 0 (encE kd [ifI (elsOk d 4) (d.getD 0 0),ifI (elsOk d 4) (d.getD 1 0),ifI (elsOk d 4) (d.getD 2 0),ifI (elsOk d 4) (d.getD 3 0)] 0)).set 1 (encE kd [ifI (elsOk d 4) (d.getD 0 0),ifI (elsOk d 4) (d.getD 1 0),ifI (elsOk d 4) (d.getD 2 0),ifI (elsOk d 4) (d.getD 3 0)] 1)).set 2 (encE kd [ifI (elsOk d 4) (d.getD 0 0),ifI (elsOk d 4) (d.getD 1 0),ifI (elsOk d 4) (d.getD 2 0),ifI (elsOk d 4) (d.getD 3 0)] 2)).set 3 (encE kd [ifI (elsOk d 4) (d.getD 0 0),ifI (elsOk d 4) (d.getD 1 0),ifI (elsOk d 4) (d.getD 2 0),ifI (elsOk d 4) (d.getD 3 0)] 3)).set 4 (encE kd [ifI (elsOk d 4) (d.getD 0 0),ifI (elsOk d 4) (d.getD 1 0),ifI (elsOk d 4) (d.getD 2 0),ifI (elsOk d 4) (d.getD 3 0)] 4)).set 5 (encE kd [ifI (elsOk d 4) (d.getD 0 0),ifI (elsOk d 4) (d.getD 1 0),ifI (elsOk d 4) (d.getD 2 0),ifI (elsOk d 4) (d.getD 3 0)] 5)).set 6 (encE kd [ifI (elsOk d 4) (d.getD 0 0),ifI (elsOk d 4) (d.getD 1 0),ifI (elsOk d 4) (d.getD 2 0),ifI (elsOk d 4) (d.getD 3 0)] 6)).length)&&(decide (7<(↑b.length:Int))&&(decide (7<(((((((b.set 0 vs).set 1 vs).set 2 vs).set 3 vs).set 4 vs).set 5 vs).set 6 vs).length)&&(decide (7<(↑c.length:Int))&&(decide (7<(((((((c.set 0 true).set 1 true).set 2 true).set 3 true).set 4 true).set 5 true).set 6 true).length)&&true)))))&&true))))))))&&true))))))))))))))),[]⟩:=by kernel_rfl
def FFredo:Model:=fun args h=>
 match args,h with
 |[.agg [.int .i64 k,.view _ (.ints .i64 a) n1 1 _,.view _ (.ints .i64 b) n2 1 _,.view _ (.bools c) n3 1 _,.bool on,.int .i64 kd,.view _ (.ints .i64 d) n4 1 _,.int .i64 vs]],[]=>
  some (.agg (redoK ⟨k,a,b,c,on,kd,d,vs⟩).cells,[.live (.ints .i64 (redoK ⟨k,a,b,c,on,kd,d,vs⟩).a),.live (.ints .i64 (redoK ⟨k,a,b,c,on,kd,d,vs⟩).b),.live (.bools (redoK ⟨k,a,b,c,on,kd,d,vs⟩).c),.live (.ints .i64 (redoK ⟨k,a,b,c,on,kd,d,vs⟩).d)],[decide (d.length≤274877906944)])
 |_,_=>none
theorem m16:ModelN Tryz.prog 21 FFredo:=by
 intro args h res h' o hnorm he ho
 unfold FFredo at he
 split at he
 case h_2=>cases he
 rename_i k nl1 a n1 cap1 nl2 b n2 cap2 nl3 c n3 cap3 on kd nl4 d n4 cap4 vs
 simp only[Option.some.injEq,Prod.mk.injEq]at he
 obtain⟨rfl,rfl,rfl⟩:=he
 simp only[List.mem_cons,List.not_mem_nil,or_false,forall_eq_or_imp,forall_eq,decide_eq_true_eq]at ho
 have o1:=ho
 simp only[normA,AV.norm,normL,Cell.norm,Con.size,List.cons.injEq,AV.c.injEq,AV.agg.injEq,Cell.view.injEq,nlen_one,true_and,and_true]at hnorm
 obtain⟨⟨rfl,rfl,rfl⟩,⟨rfl,rfl,rfl⟩,⟨rfl,rfl,rfl⟩,rfl,rfl,rfl⟩:=hnorm
 unfold redoK PK.ok
 dsimp only
 cases h:kokL k a b c on kd d vs with
 |false=>exact zeroA (h:=[]) (meets_of t44 (by kernel_rfl) (by kernel_rfl) (x16_1 k a b c on kd d vs) (by simp only[h,o1];rfl) (by simp) (fun cc _=>LcOk.nil))
 |true=>
  obtain⟨ha,hb,hc⟩:=kok_shape h
  cases ho:on with
  |false=>subst ho;exact meets_of t44 (by kernel_rfl) (by kernel_rfl) (x16_2 k a b c false kd d vs) (by simp[h,o1,ha,hb,hc]) (by simp) (fun cc _=>LcOk.nil)
  |true=>
   obtain⟨h1,h2,h3⟩:=kok_on h ho
   have hf:=elsOk_fok h1
   subst ho
   have e:=x16_3 k a b c true kd d vs
   rw[set8 ha,set8 hb,set8 hc]at e
   have mm:=meets_of (f:=21) t44 (by kernel_rfl) (by kernel_rfl) e (by simp only[h,h1,h2,ifI,hf,List.length_set,ha,hb,hc,bS];simp;omega) (by simp) (fun cc _=>LcOk.nil)
   have:=mm.nil1 (es:=1) (c0:=.ints .i64 []) rfl rfl
   rw[ha,hb,hc]at this⊢
   exact this
def shardK (x:PK) (at_:Int):PK:=bif x.ok&&bet at_ 0 7 then(bif x.on then⟨x.k,x.a.set at_.toNat ((encI x.kd x.d).getD at_.toNat 0),x.b.set at_.toNat x.vs,x.c.set at_.toNat true,x.on,x.kd,x.d,x.vs⟩else x)else PK0
def shardB (x:PK) (at_:Int):Bool:=bif x.ok&&bet at_ 0 7 then x.on else false
theorem x26_1 (k:Int) (a b:List Int) (c:List Bool) (on:Bool) (kd:Int) (d:List Int) (vs:Int) (x:Int):evalF tt (ctOf T44) ([]) 100 Tryz.f19 [.agg [.int .i64 k,.view none (.ints .i64 a) a.length 1 none,.view none (.ints .i64 b) b.length 1 none,.view none (.bools c) c.length 1 none,.bool on,.int .i64 kd,.view none (.ints .i64 d) d.length 1 none,.int .i64 vs],.c (.int .i64 x)] [] [(0,true)]=
  some ⟨.tup [.agg [.int .i64 0,.nils,.nils,.nils,.bool false,.int .i64 0,.nils,.int .i64 0],.c (.bool false)],[],(decide (d.length≤274877906944)&&(!kokL k a b c on kd d vs&&(!kokL k a b c on kd d vs&&(!kokL k a b c on kd d vs&&((!kokL k a b c on kd d vs)&&true))))),[]⟩:=by kernel_rfl
theorem x26_2 (k:Int) (a b:List Int) (c:List Bool) (on:Bool) (kd:Int) (d:List Int) (vs:Int) (x:Int):evalF tt (ctOf T44) ([]) 100 Tryz.f19 [.agg [.int .i64 k,.view none (.ints .i64 a) a.length 1 none,.view none (.ints .i64 b) b.length 1 none,.view none (.bools c) c.length 1 none,.bool on,.int .i64 kd,.view none (.ints .i64 d) d.length 1 none,.int .i64 vs],.c (.int .i64 x)] [] [(0,false),(0,true)]=
  some ⟨.tup [.agg [.int .i64 0,.nils,.nils,.nils,.bool false,.int .i64 0,.nils,.int .i64 0],.c (.bool false)],[],(decide (d.length≤274877906944)&&(!!kokL k a b c on kd d vs&&(!!kokL k a b c on kd d vs&&(!!kokL k a b c on kd d vs&&((bif !kokL k a b c on kd d vs then true else !bet x 0 7)&&true))))),[]⟩:=by kernel_rfl
theorem x26_3 (k:Int) (a b:List Int) (c:List Bool) (on:Bool) (kd:Int) (d:List Int) (vs:Int) (x:Int):evalF tt (ctOf T44) ([]) 100 Tryz.f19 [.agg [.int .i64 k,.view none (.ints .i64 a) a.length 1 none,.view none (.ints .i64 b) b.length 1 none,.view none (.bools c) c.length 1 none,.bool on,.int .i64 kd,.view none (.ints .i64 d) d.length 1 none,.int .i64 vs],.c (.int .i64 x)] [] [(0,false),(0,false),(0,true)]=
  some ⟨.tup [.agg [.int .i64 k,.sl 0 0 a.length 1 none,.sl 1 0 b.length 1 none,.sl 2 0 c.length 1 none,.bool on,.int .i64 kd,.sl 3 0 d.length 1 none,.int .i64 vs],.c (.bool on)],[.live (.ints .i64 (a.set x.toNat ((encL kd [ifI (elsOk d 4) (d.getD 0 0),ifI (elsOk d 4) (d.getD 1 0),ifI (elsOk d 4) (d.getD 2 0),ifI (elsOk d 4) (d.getD 3 0)]).getD x.toNat 0))),.live (.ints .i64 (b.set x.toNat vs)),.live (.bools (c.set x.toNat true)),.live (.ints .i64 d)],(decide (d.length≤274877906944)&&(!!kokL k a b c on kd d vs&&(!!kokL k a b c on kd d vs&&(!!kokL k a b c on kd d vs&&((!bif !kokL k a b c on kd d vs then true else !bet x 0 7)&&(decide (a.length≤274877906944)&&(decide (b.length≤274877906944)&&(decide (c.length≤274877906944)&&(decide (d.length≤274877906944)&&((on)&&((decide (d.length=d.length)&&(decide (d.length≤274877906944)&&(bet kd 1 2&&(fok (ifI (elsOk d 4) (d.getD 0 0))&&(fok (ifI (elsOk d 4) (d.getD 1 0))&&(fok (ifI (elsOk d 4) (d.getD 2 0))&&(fok (ifI (elsOk d 4) (d.getD 3 0))&&(decide (0≤x)&&(decide (x<8)&&(decide (x.toNat<(encL kd [ifI (elsOk d 4) (d.getD 0 0),ifI (elsOk d 4) (d.getD 1 0),ifI (elsOk d 4) (d.getD 2 0),ifI (elsOk d 4) (d.getD 3 0)]).length)&&(decide (0≤x)&&(decide (x<(↑a.length:Int))&&(decide (x.toNat<a.length)&&(decide (0≤x)&&(decide (x<(↑b.length:Int))&&(decide (x.toNat<b.length)&&(decide (0≤x)&&(decide (x<(↑c.length:Int))&&(decide (x.toNat<c.length)&&true))))))))&&true)))))))))))&&true))))))))))),[]⟩:=by kernel_rfl
theorem x26_4 (k:Int) (a b:List Int) (c:List Bool) (on:Bool) (kd:Int) (d:List Int) (vs:Int) (x:Int):evalF tt (ctOf T44) ([]) 100 Tryz.f19 [.agg [.int .i64 k,.view none (.ints .i64 a) a.length 1 none,.view none (.ints .i64 b) b.length 1 none,.view none (.bools c) c.length 1 none,.bool on,.int .i64 kd,.view none (.ints .i64 d) d.length 1 none,.int .i64 vs],.c (.int .i64 x)] [] [(0,false),(0,false),(0,false)]=
  some ⟨.tup [.agg [.int .i64 k,.sl 0 0 a.length 1 none,.sl 1 0 b.length 1 none,.sl 2 0 c.length 1 none,.bool on,.int .i64 kd,.sl 3 0 d.length 1 none,.int .i64 vs],.c (.bool on)],[.live (.ints .i64 a),.live (.ints .i64 b),.live (.bools c),.live (.ints .i64 d)],(decide (d.length≤274877906944)&&(!!kokL k a b c on kd d vs&&(!!kokL k a b c on kd d vs&&(!!kokL k a b c on kd d vs&&((!bif !kokL k a b c on kd d vs then true else !bet x 0 7)&&(decide (a.length≤274877906944)&&(decide (b.length≤274877906944)&&(decide (c.length≤274877906944)&&(decide (d.length≤274877906944)&&((!on)&&true)))))))))),[]⟩:=by kernel_rfl
def FFshard:Model:=fun args h=>
 match args,h with
 |[.agg [.int .i64 k,.view _ (.ints .i64 a) n1 1 _,.view _ (.ints .i64 b) n2 1 _,.view _ (.bools c) n3 1 _,.bool on,.int .i64 kd,.view _ (.ints .i64 d) n4 1 _,.int .i64 vs],.c (.int .i64 x)],[]=>
  some (.tup [.agg (shardK ⟨k,a,b,c,on,kd,d,vs⟩ x).cells,.c (.bool (shardB ⟨k,a,b,c,on,kd,d,vs⟩ x))],[.live (.ints .i64 (shardK ⟨k,a,b,c,on,kd,d,vs⟩ x).a),.live (.ints .i64 (shardK ⟨k,a,b,c,on,kd,d,vs⟩ x).b),.live (.bools (shardK ⟨k,a,b,c,on,kd,d,vs⟩ x).c),.live (.ints .i64 (shardK ⟨k,a,b,c,on,kd,d,vs⟩ x).d)],[decide (d.length≤274877906944)])
 |_,_=>none
theorem m26:ModelN Tryz.prog 19 FFshard:=by
 intro args h res h' o hnorm he ho
 unfold FFshard at he
 split at he
 case h_2=>cases he
 rename_i k nl1 a n1 cap1 nl2 b n2 cap2 nl3 c n3 cap3 on kd nl4 d n4 cap4 vs x
 simp only[Option.some.injEq,Prod.mk.injEq]at he
 obtain⟨rfl,rfl,rfl⟩:=he
 simp only[List.mem_cons,List.not_mem_nil,or_false,forall_eq_or_imp,forall_eq,decide_eq_true_eq]at ho
 have o1:=ho
 simp only[normA,AV.norm,normL,Cell.norm,Con.size,List.cons.injEq,AV.c.injEq,AV.agg.injEq,Cell.view.injEq,nlen_one,true_and,and_true]at hnorm
 obtain⟨⟨rfl,rfl,rfl⟩,⟨rfl,rfl,rfl⟩,⟨rfl,rfl,rfl⟩,rfl,rfl,rfl⟩:=hnorm
 unfold shardK shardB PK.ok
 dsimp only
 cases h:kokL k a b c on kd d vs with
 |false=>exact zeroT (meets_of t44 (by kernel_rfl) (by kernel_rfl) (x26_1 k a b c on kd d vs x) (by simp[h,o1]) (by simp) (fun cc _=>LcOk.nil))
 |true=>
  obtain⟨ha,hb,hc⟩:=kok_shape h
  cases hx:bet x 0 7 with
  |false=>exact zeroT (meets_of t44 (by kernel_rfl) (by kernel_rfl) (x26_2 k a b c on kd d vs x) (by simp[h,hx,o1]) (by simp) (fun cc _=>LcOk.nil))
  |true=>
   have hx':=bet_iff.1 hx
   cases ho:on with
   |false=>subst ho;exact meets_of t44 (by kernel_rfl) (by kernel_rfl) (x26_4 k a b c false kd d vs x) (by simp[h,hx,o1,ha,hb,hc]) (by simp) (fun cc _=>LcOk.nil)
   |true=>
    obtain⟨h1,h2,h3⟩:=kok_on h ho
    have hf:=elsOk_fok h1
    subst ho
    have mm:=meets_of (f:=19) t44 (by kernel_rfl) (by kernel_rfl) (x26_3 k a b c true kd d vs x) (by simp only[h,hx,h1,h2,ifI,hf,List.length_set,ha,hb,hc,encL,List.length_cons,List.length_nil,bS];omega) (by simp) (fun cc _=>LcOk.nil)
    have e1:(a.set x.toNat ((encI kd d).getD x.toNat 0)).length=a.length:=List.length_set
    have e2:(b.set x.toNat vs).length=b.length:=List.length_set
    have e3:(c.set x.toNat true).length=c.length:=List.length_set
    show Meets _ _ _ _ (.tup [.agg [.int .i64 k,.sl 0 0 (a.set x.toNat ((encI kd d).getD x.toNat 0)).length 1 none,.sl 1 0 (b.set x.toNat vs).length 1 none,.sl 2 0 (c.set x.toNat true).length 1 none,.bool true,.int .i64 kd,.sl 3 0 d.length 1 none,.int .i64 vs],.c (.bool true)]) _
    rw[e1,e2,e3]
    exact mm
def tlN (x:PK):Int:=bif x.ok then(bif x.on then leftL x.b x.vs else 0)else -1
end Go.Proofs.YthapjdpkelihiaaGreat.Am
end
section
namespace Go.Proofs.YthapjdpkelihiaaGreat.Am
def begK (x:PK) (kind:Int) (e:List Int):PK:=
 bif x.ok&&(bet kind 1 2&&elsOk e 4)then(bif x.on||(topL x.b x.c==99)then x else⟨x.k,x.a,x.b,x.c,true,kind,e,topL x.b x.c+1⟩)else PK0
def begB (x:PK) (kind:Int) (e:List Int):Bool:=bif x.ok&&(bet kind 1 2&&elsOk e 4)then !(x.on||(topL x.b x.c==99))else false
theorem x36_1 (k:Int) (a b:List Int) (c:List Bool) (on:Bool) (kd:Int) (d:List Int) (vs:Int) (x:Int) (e:List Int):evalF tt (ctOf T44) ([]) 100 Tryz.f18 [.agg [.int .i64 k,.view none (.ints .i64 a) a.length 1 none,.view none (.ints .i64 b) b.length 1 none,.view none (.bools c) c.length 1 none,.bool on,.int .i64 kd,.view none (.ints .i64 d) d.length 1 none,.int .i64 vs],.c (.int .i64 x),.c (.view none (.ints .i64 e) e.length 1 none)] [] [(0,true)]=
  some ⟨.tup [.agg [.int .i64 0,.nils,.nils,.nils,.bool false,.int .i64 0,.nils,.int .i64 0],.c (.bool false)],[],(decide (d.length≤274877906944)&&(!kokL k a b c on kd d vs&&(!kokL k a b c on kd d vs&&(!kokL k a b c on kd d vs&&((!kokL k a b c on kd d vs)&&true))))),[]⟩:=by kernel_rfl
theorem x36_2 (k:Int) (a b:List Int) (c:List Bool) (on:Bool) (kd:Int) (d:List Int) (vs:Int) (x:Int) (e:List Int):evalF tt (ctOf T44) ([]) 100 Tryz.f18 [.agg [.int .i64 k,.view none (.ints .i64 a) a.length 1 none,.view none (.ints .i64 b) b.length 1 none,.view none (.bools c) c.length 1 none,.bool on,.int .i64 kd,.view none (.ints .i64 d) d.length 1 none,.int .i64 vs],.c (.int .i64 x),.c (.view none (.ints .i64 e) e.length 1 none)] [] [(0,false),(0,true)]=
  some ⟨.tup [.agg [.int .i64 0,.nils,.nils,.nils,.bool false,.int .i64 0,.nils,.int .i64 0],.c (.bool false)],[],(decide (d.length≤274877906944)&&(!!kokL k a b c on kd d vs&&(!!kokL k a b c on kd d vs&&(!!kokL k a b c on kd d vs&&((bif !kokL k a b c on kd d vs then true else !bet x 1 2)&&((bif !kokL k a b c on kd d vs then true else !bet x 1 2)&&((bif !kokL k a b c on kd d vs then true else !bet x 1 2)&&((bif !kokL k a b c on kd d vs then true else !bet x 1 2)&&true)))))))),[]⟩:=by kernel_rfl
theorem x36_3 (k:Int) (a b:List Int) (c:List Bool) (on:Bool) (kd:Int) (d:List Int) (vs:Int) (x:Int) (e:List Int):evalF tt (ctOf T44) ([]) 100 Tryz.f18 [.agg [.int .i64 k,.view none (.ints .i64 a) a.length 1 none,.view none (.ints .i64 b) b.length 1 none,.view none (.bools c) c.length 1 none,.bool on,.int .i64 kd,.view none (.ints .i64 d) d.length 1 none,.int .i64 vs],.c (.int .i64 x),.c (.view none (.ints .i64 e) e.length 1 none)] [] [(0,false),(0,false),(0,true)]=
  some ⟨.tup [.agg [.int .i64 0,.nils,.nils,.nils,.bool false,.int .i64 0,.nils,.int .i64 0],.c (.bool false)],[],(decide (d.length≤274877906944)&&(!!kokL k a b c on kd d vs&&(!!kokL k a b c on kd d vs&&(!!kokL k a b c on kd d vs&&((!bif !kokL k a b c on kd d vs then true else !bet x 1 2)&&((!bif !kokL k a b c on kd d vs then true else !bet x 1 2)&&(decide (e.length≤274877906944)&&((!bif !kokL k a b c on kd d vs then true else !bet x 1 2)&&((bif bif !kokL k a b c on kd d vs then true else !bet x 1 2 then true else !elsOk e 4)&&true))))))))),[]⟩:=by kernel_rfl
theorem x36_4 (k:Int) (a b:List Int) (c:List Bool) (on:Bool) (kd:Int) (d:List Int) (vs:Int) (x:Int) (e:List Int):evalF tt (ctOf T44) ([]) 100 Tryz.f18 [.agg [.int .i64 k,.view none (.ints .i64 a) a.length 1 none,.view none (.ints .i64 b) b.length 1 none,.view none (.bools c) c.length 1 none,.bool on,.int .i64 kd,.view none (.ints .i64 d) d.length 1 none,.int .i64 vs],.c (.int .i64 x),.c (.view none (.ints .i64 e) e.length 1 none)] [] [(0,false),(0,false),(0,false),(0,true)]=
  some ⟨.tup [.agg [.int .i64 k,.sl 0 0 a.length 1 none,.sl 1 0 b.length 1 none,.sl 2 0 c.length 1 none,.bool on,.int .i64 kd,.sl 3 0 d.length 1 none,.int .i64 vs],.c (.bool false)],[.live (.ints .i64 a),.live (.ints .i64 b),.live (.bools c),.live (.ints .i64 d)],(decide (d.length≤274877906944)&&(!!kokL k a b c on kd d vs&&(!!kokL k a b c on kd d vs&&(!!kokL k a b c on kd d vs&&((!bif !kokL k a b c on kd d vs then true else !bet x 1 2)&&((!bif !kokL k a b c on kd d vs then true else !bet x 1 2)&&(decide (e.length≤274877906944)&&((!bif !kokL k a b c on kd d vs then true else !bet x 1 2)&&((!bif bif !kokL k a b c on kd d vs then true else !bet x 1 2 then true else !elsOk e 4)&&(decide (a.length≤274877906944)&&(decide (b.length≤274877906944)&&(decide (c.length≤274877906944)&&(decide (d.length≤274877906944)&&((on)&&((on)&&((on)&&((on)&&((on)&&true)))))))))))))))))),[]⟩:=by kernel_rfl
theorem x36_5 (k:Int) (a b:List Int) (c:List Bool) (on:Bool) (kd:Int) (d:List Int) (vs:Int) (x:Int) (e:List Int):evalF tt (ctOf T44) ([]) 100 Tryz.f18 [.agg [.int .i64 k,.view none (.ints .i64 a) a.length 1 none,.view none (.ints .i64 b) b.length 1 none,.view none (.bools c) c.length 1 none,.bool on,.int .i64 kd,.view none (.ints .i64 d) d.length 1 none,.int .i64 vs],.c (.int .i64 x),.c (.view none (.ints .i64 e) e.length 1 none)] [] [(0,false),(0,false),(0,false),(0,false),(0,true)]=
  some ⟨.tup [.agg [.int .i64 k,.sl 0 0 a.length 1 none,.sl 1 0 b.length 1 none,.sl 2 0 c.length 1 none,.bool on,.int .i64 kd,.sl 3 0 d.length 1 none,.int .i64 vs],.c (.bool false)],[.live (.ints .i64 a),.live (.ints .i64 b),.live (.bools c),.live (.ints .i64 d)],(decide (d.length≤274877906944)&&(!!kokL k a b c on kd d vs&&(!!kokL k a b c on kd d vs&&(!!kokL k a b c on kd d vs&&((!bif !kokL k a b c on kd d vs then true else !bet x 1 2)&&((!bif !kokL k a b c on kd d vs then true else !bet x 1 2)&&(decide (e.length≤274877906944)&&((!bif !kokL k a b c on kd d vs then true else !bet x 1 2)&&((!bif bif !kokL k a b c on kd d vs then true else !bet x 1 2 then true else !elsOk e 4)&&(decide (a.length≤274877906944)&&(decide (b.length≤274877906944)&&(decide (c.length≤274877906944)&&(decide (d.length≤274877906944)&&((!on)&&((!on)&&((!on)&&(decide (c.length≤8)&&(decide (b.length=c.length)&&((!on)&&((bif on then true else topL b c==99)&&true)))))))))))))))))))),[]⟩:=by kernel_rfl
theorem x36_6 (k:Int) (a b:List Int) (c:List Bool) (on:Bool) (kd:Int) (d:List Int) (vs:Int) (x:Int) (e:List Int):evalF tt (ctOf T44) ([]) 100 Tryz.f18 [.agg [.int .i64 k,.view none (.ints .i64 a) a.length 1 none,.view none (.ints .i64 b) b.length 1 none,.view none (.bools c) c.length 1 none,.bool on,.int .i64 kd,.view none (.ints .i64 d) d.length 1 none,.int .i64 vs],.c (.int .i64 x),.c (.view none (.ints .i64 e) e.length 1 none)] [] [(0,false),(0,false),(0,false),(0,false),(0,false)]=
  some ⟨.tup [.agg [.int .i64 k,.sl 0 0 a.length 1 none,.sl 1 0 b.length 1 none,.sl 2 0 c.length 1 none,.bool true,.int .i64 x,.sl 3 0 (↑e.length:Int).toNat 1 none,.int .i64 (IntKind.i64.wrap (topL b c+1))],.c (.bool true)],[.live (.ints .i64 a),.live (.ints .i64 b),.live (.bools c),.live (.ints .i64 e)],(decide (d.length≤274877906944)&&(!!kokL k a b c on kd d vs&&(!!kokL k a b c on kd d vs&&(!!kokL k a b c on kd d vs&&((!bif !kokL k a b c on kd d vs then true else !bet x 1 2)&&((!bif !kokL k a b c on kd d vs then true else !bet x 1 2)&&(decide (e.length≤274877906944)&&((!bif !kokL k a b c on kd d vs then true else !bet x 1 2)&&((!bif bif !kokL k a b c on kd d vs then true else !bet x 1 2 then true else !elsOk e 4)&&(decide (a.length≤274877906944)&&(decide (b.length≤274877906944)&&(decide (c.length≤274877906944)&&(decide (d.length≤274877906944)&&((!on)&&((!on)&&((!on)&&(decide (c.length≤8)&&(decide (b.length=c.length)&&((!on)&&((!bif on then true else topL b c==99)&&(decide (e.length≤274877906944)&&((decide ((↑e.length:Int)≤(↑e.length:Int))&&(decide ((↑e.length:Int)≤(↑e.length:Int))&&true))&&(decide (c.length≤8)&&((decide (b.length=c.length))&&true)))))))))))))))))))))))),[]⟩:=by kernel_rfl
theorem all_getD {p:Int→Bool} (h0:p 0=true) {l:List Int} (h:l.all p=true) (i:Nat):p (l.getD i 0)=true:=by
 rw[List.getD_eq_getElem?_getD]
 cases hi:l[i]? with
 |none=>exact h0
 |some x=>exact List.all_eq_true.1 h _ (List.mem_of_getElem? hi)
theorem all_set {p:Int→Bool} {l:List Int} {i:Nat} {x:Int} (h:l.all p=true) (hx:p x=true):(l.set i x).all p=true:=by
 rw[List.all_eq_true]at h⊢
 intro y hy
 rcases List.mem_or_eq_of_mem_set hy with h'|h'
 ·exact h y h'
 ·rw[h'];exact hx
theorem all_versL {p:Int→Bool} (h0:p 0=true) {b:List Int} (hb:b.all p=true) (c:List Bool):(versL b c).all p=true:=by
 have h1:(versA b (flg c)).all p=true:=runN_inv0 (step:=versS b (flg c)) (fun _ o=>o.all p=true) _ [] rfl fun i o _ h=>by
  simp only[versS,List.all_append,List.all_cons,List.all_nil,Bool.and_true,h,all_getD h0 hb,Bool.and_self]
 have swp_all: ∀(v:List Int) (j:Nat),v.all p=true→(swp v j).all p=true:=fun v j h=>all_set (all_set h (all_getD h0 h _)) (all_getD h0 h _)
 have h2:(sortL (versA b (flg c))).all p=true:=runN_inv0 (step:=fun t v=>insL (t+1) v) (fun _ o=>o.all p=true) _ _ h1 fun i o _ h=>by
  have:=runE_inv (step:=insS (i+1)) (fun _ b=>b.all p=true) (fun c=>c.all p=true) (i+1) 0 o h (fun k b _ _ hb=>by
   unfold insS
   cases decide (b.getD (i+1-k) 0<b.getD (i+1-k-1) 0)
   ·exact⟨fun b' h=>by simp at h,fun c h=>by simp at h;rw[←h];exact hb⟩
   ·exact⟨fun b' h=>by simp at h;rw[←h];exact swp_all _ _ hb,fun c h=>by simp at h⟩)
  show(insL (i+1) o).all p=true
  unfold insL
  revert this
  cases runE (insS (i+1)) (i+1) 0 o<;>exact fun h=>h
 have h3:(revL (sortL (versA b (flg c)))).all p=true:=runN_inv0 (step:=revS _) (fun _ o=>o.all p=true) _ _ h2 fun i o _ h=>all_set (all_set h (all_getD h0 h _)) (all_getD h0 h _)
 have h4: ∀(v:List Int) (n:Nat),v.all p=true→(compT v n).all p=true:=fun v n hv=>by
  induction n with
  |zero=>rfl
  |succ n ih=>
   simp only[compT]
   cases Nat.beq n 0||v.getD n 0 !=v.getD (n-1) 0
   ·exact ih
   ·simp only[cond_true,List.all_append,List.all_cons,List.all_nil,Bool.and_true,ih,all_getD h0 hv,Bool.and_self]
 exact h4 _ _ h3
theorem shOk_b {a b:List Int} {c:List Bool} (h:allR (shOk a b c) 8 0=true) (hb:b.length=8):(b.all fun x=>bet x 0 99)=true:=by
 rw[List.all_eq_true]
 intro x hx
 obtain⟨i,hi⟩:=List.getElem?_of_mem hx
 have hlt:=(List.getElem?_eq_some_iff.1 hi).1
 have:=allR_spec.1 h i (by omega) (by omega)
 unfold shOk at this
 have hg:b.getD i 0=x:=by rw[List.getD_eq_getElem?_getD,hi];rfl
 rw[hg]at this
 cases h1:c.getD i false with
 |true=>
  rw[h1,cond_true,Bool.and_eq_true,bet_iff]at this
  exact bet_iff.2 ⟨by omega,this.2.2⟩
 |false=>
  rw[h1,cond_false,Bool.and_eq_true,Bool.not_eq_true']at this
  have h2:x=0:=by simpa using this.2
  rw[h2];rfl
theorem versL_bet {a b:List Int} {c:List Bool} (h:allR (shOk a b c) 8 0=true) (hb:b.length=8) (hc:c.length=8):bet (topL b c) 0 99=true:=
 all_getD (p:=fun x=>bet x 0 99) rfl (all_versL (p:=fun x=>bet x 0 99) rfl (shOk_b h hb) c) 0
def FFbeg:Model:=fun args h=>
 match args,h with
 |[.agg [.int .i64 k,.view _ (.ints .i64 a) n1 1 _,.view _ (.ints .i64 b) n2 1 _,.view _ (.bools c) n3 1 _,.bool on,.int .i64 kd,.view _ (.ints .i64 d) n4 1 _,.int .i64 vs],.c (.int .i64 x),.c (.view _ (.ints .i64 e) n5 1 _)],[]=>
  some (.tup [.agg (begK ⟨k,a,b,c,on,kd,d,vs⟩ x e).cells,.c (.bool (begB ⟨k,a,b,c,on,kd,d,vs⟩ x e))],[.live (.ints .i64 (begK ⟨k,a,b,c,on,kd,d,vs⟩ x e).a),.live (.ints .i64 (begK ⟨k,a,b,c,on,kd,d,vs⟩ x e).b),.live (.bools (begK ⟨k,a,b,c,on,kd,d,vs⟩ x e).c),.live (.ints .i64 (begK ⟨k,a,b,c,on,kd,d,vs⟩ x e).d)],[decide (d.length≤274877906944),decide (e.length≤274877906944)])
 |_,_=>none
theorem m36:ModelN Tryz.prog 18 FFbeg:=by
 intro args h res h' o hnorm he ho
 unfold FFbeg at he
 split at he
 case h_2=>cases he
 rename_i k nl1 a n1 cap1 nl2 b n2 cap2 nl3 c n3 cap3 on kd nl4 d n4 cap4 vs x nl5 e n5 cap5
 simp only[Option.some.injEq,Prod.mk.injEq]at he
 obtain⟨rfl,rfl,rfl⟩:=he
 simp only[List.mem_cons,List.not_mem_nil,or_false,forall_eq_or_imp,forall_eq,decide_eq_true_eq]at ho
 obtain⟨o1,o2⟩:=ho
 simp only[normA,AV.norm,normL,Cell.norm,Con.size,List.cons.injEq,AV.c.injEq,AV.agg.injEq,Cell.view.injEq,nlen_one,true_and,and_true]at hnorm
 obtain⟨⟨⟨rfl,rfl,rfl⟩,⟨rfl,rfl,rfl⟩,⟨rfl,rfl,rfl⟩,rfl,rfl,rfl⟩,rfl,rfl,rfl⟩:=hnorm
 unfold begK begB PK.ok
 dsimp only
 cases h:kokL k a b c on kd d vs with
 |false=>exact zeroT (meets_of t44 (by kernel_rfl) (by kernel_rfl) (x36_1 k a b c on kd d vs x e) (by simp[h,o1]) (by simp) (fun cc _=>LcOk.nil))
 |true=>
  obtain⟨ha,hb,hc⟩:=kok_shape h
  cases hx:bet x 1 2 with
  |false=>exact zeroT (meets_of t44 (by kernel_rfl) (by kernel_rfl) (x36_2 k a b c on kd d vs x e) (by simp[h,hx,o1]) (by simp) (fun cc _=>LcOk.nil))
  |true=>
   cases he:elsOk e 4 with
   |false=>exact zeroT (meets_of t44 (by kernel_rfl) (by kernel_rfl) (x36_3 k a b c on kd d vs x e) (by simp[h,hx,he,o1,o2]) (by simp) (fun cc _=>LcOk.nil))
   |true=>
    cases ho:on with
    |true=>
     subst ho
     exact meets_of t44 (by kernel_rfl) (by kernel_rfl) (x36_4 k a b c true kd d vs x e) (by simp[h,hx,he,o1,o2,ha,hb,hc]) (by simp) (fun cc _=>LcOk.nil)
    |false=>
     obtain⟨hs,-,-,-⟩:=kok_off h ho
     subst ho
     simp only[sokL,Bool.and_eq_true]at hs
     have ht:=bet_iff.1 (versL_bet hs.2.2.1 hb hc)
     cases hT:topL b c==99 with
     |true=>exact meets_of t44 (by kernel_rfl) (by kernel_rfl) (x36_5 k a b c false kd d vs x e) (by simp[h,hx,he,hT,o1,o2,ha,hb,hc]) (by simp) (fun cc _=>LcOk.nil)
     |false=>
      have e6:=x36_6 k a b c false kd d vs x e
      rw[wrap_small (by omega) (by omega)]at e6
      exact meets_of t44 (by kernel_rfl) (by kernel_rfl) e6 (by simp[h,hx,he,hT,o1,o2,ha,hb,hc]) (by simp) (fun cc _=>LcOk.nil)
def dropK (x:PK) (at_:Int):PK:=⟨x.k,x.a.set at_.toNat 0,x.b.set at_.toNat 0,x.c.set at_.toNat false,x.on,x.kd,x.d,x.vs⟩
def loseK (x:PK) (at_:Int):PK:=bif x.ok&&bet at_ 0 7 then(bif !rdS x.k (dropK x at_).a (dropK x at_).b (dropK x at_).c&& !x.on then x else dropK x at_)else PK0
noncomputable def T45:List Entry:=[⟨20,[],nm FFkread⟩,⟨21,[],nm FFredo⟩,⟨19,[],nm FFshard⟩,⟨18,[],nm FFbeg⟩]++T44
theorem e45:EntriesOk Tryz.prog T45:=by
 refine EntriesOk.append ?_ e44
 intro e he
 simp only[List.mem_cons,List.not_mem_nil,or_false]at he
 rcases he with rfl|rfl|rfl|rfl
 ·exact m20.ok
 ·exact m16.ok
 ·exact m26.ok
 ·exact m36.ok
theorem t45:CtOk Tryz.prog (ctOf T45):=ctOf_ok e45
theorem x42_1 (k:Int) (a b:List Int) (c:List Bool) (on:Bool) (kd:Int) (d:List Int) (vs:Int) (x:Int):evalF tt (ctOf T45) ([]) 100 Tryz.f89 [.agg [.int .i64 k,.view none (.ints .i64 a) a.length 1 none,.view none (.ints .i64 b) b.length 1 none,.view none (.bools c) c.length 1 none,.bool on,.int .i64 kd,.view none (.ints .i64 d) d.length 1 none,.int .i64 vs],.c (.int .i64 x)] [] [(0,true)]=
  some ⟨.tup [.agg [.int .i64 0,.nils,.nils,.nils,.bool false,.int .i64 0,.nils,.int .i64 0],.c (.bool false)],[],(decide (d.length≤274877906944)&&(!kokL k a b c on kd d vs&&(!kokL k a b c on kd d vs&&(!kokL k a b c on kd d vs&&((!kokL k a b c on kd d vs)&&true))))),[]⟩:=by kernel_rfl
theorem x42_2 (k:Int) (a b:List Int) (c:List Bool) (on:Bool) (kd:Int) (d:List Int) (vs:Int) (x:Int):evalF tt (ctOf T45) ([]) 100 Tryz.f89 [.agg [.int .i64 k,.view none (.ints .i64 a) a.length 1 none,.view none (.ints .i64 b) b.length 1 none,.view none (.bools c) c.length 1 none,.bool on,.int .i64 kd,.view none (.ints .i64 d) d.length 1 none,.int .i64 vs],.c (.int .i64 x)] [] [(0,false),(0,true)]=
  some ⟨.tup [.agg [.int .i64 0,.nils,.nils,.nils,.bool false,.int .i64 0,.nils,.int .i64 0],.c (.bool false)],[],(decide (d.length≤274877906944)&&(!!kokL k a b c on kd d vs&&(!!kokL k a b c on kd d vs&&(!!kokL k a b c on kd d vs&&((bif !kokL k a b c on kd d vs then true else !bet x 1 2)&&true))))),[]⟩:=by kernel_rfl
theorem x42_3 (k:Int) (a b:List Int) (c:List Bool) (on:Bool) (kd:Int) (d:List Int) (vs:Int) (x:Int):evalF tt (ctOf T45) ([]) 100 Tryz.f89 [.agg [.int .i64 k,.view none (.ints .i64 a) a.length 1 none,.view none (.ints .i64 b) b.length 1 none,.view none (.bools c) c.length 1 none,.bool on,.int .i64 kd,.view none (.ints .i64 d) d.length 1 none,.int .i64 vs],.c (.int .i64 x)] [] [(0,false),(0,false),(0,true)]=
  some ⟨.tup [.agg [.int .i64 k,.sl 0 0 a.length 1 none,.sl 1 0 b.length 1 none,.sl 2 0 c.length 1 none,.bool on,.int .i64 kd,.sl 3 0 d.length 1 none,.int .i64 vs],.c (.bool false)],[.live (.ints .i64 a),.live (.ints .i64 b),.live (.bools c),.live (.ints .i64 d)],(decide (d.length≤274877906944)&&(!!kokL k a b c on kd d vs&&(!!kokL k a b c on kd d vs&&(!!kokL k a b c on kd d vs&&((!bif !kokL k a b c on kd d vs then true else !bet x 1 2)&&((k==x)&&(decide (a.length≤274877906944)&&(decide (b.length≤274877906944)&&(decide (c.length≤274877906944)&&((decide (d.length≤274877906944))&&true)))))))))),[]⟩:=by kernel_rfl
theorem x42_4 (k:Int) (a b:List Int) (c:List Bool) (on:Bool) (kd:Int) (d:List Int) (vs:Int) (x:Int):evalF tt (ctOf T45) ([]) 100 Tryz.f89 [.agg [.int .i64 k,.view none (.ints .i64 a) a.length 1 none,.view none (.ints .i64 b) b.length 1 none,.view none (.bools c) c.length 1 none,.bool on,.int .i64 kd,.view none (.ints .i64 d) d.length 1 none,.int .i64 vs],.c (.int .i64 x)] [] [(0,false),(0,false),(0,false)]=
  some ⟨.tup [.agg [.int .i64 (begK {k:=k,a:=a,b:=b,c:=c,on:=on,kd:=kd,d:=d,vs:=vs} x (krD k a b c on kd d vs)).k,.sl 0 0 (begK {k:=k,a:=a,b:=b,c:=c,on:=on,kd:=kd,d:=d,vs:=vs} x (krD k a b c on kd d vs)).a.length 1 none,.sl 1 0 (begK {k:=k,a:=a,b:=b,c:=c,on:=on,kd:=kd,d:=d,vs:=vs} x (krD k a b c on kd d vs)).b.length 1 none,.sl 2 0 (begK {k:=k,a:=a,b:=b,c:=c,on:=on,kd:=kd,d:=d,vs:=vs} x (krD k a b c on kd d vs)).c.length 1 none,.bool (begK {k:=k,a:=a,b:=b,c:=c,on:=on,kd:=kd,d:=d,vs:=vs} x (krD k a b c on kd d vs)).on,.int .i64 (begK {k:=k,a:=a,b:=b,c:=c,on:=on,kd:=kd,d:=d,vs:=vs} x (krD k a b c on kd d vs)).kd,.sl 3 0 (begK {k:=k,a:=a,b:=b,c:=c,on:=on,kd:=kd,d:=d,vs:=vs} x (krD k a b c on kd d vs)).d.length 1 none,.int .i64 (begK {k:=k,a:=a,b:=b,c:=c,on:=on,kd:=kd,d:=d,vs:=vs} x (krD k a b c on kd d vs)).vs],.c (.bool (begB {k:=k,a:=a,b:=b,c:=c,on:=on,kd:=kd,d:=d,vs:=vs} x (krD k a b c on kd d vs)))],[.live (.ints .i64 (begK {k:=k,a:=a,b:=b,c:=c,on:=on,kd:=kd,d:=d,vs:=vs} x (krD k a b c on kd d vs)).a),.live (.ints .i64 (begK {k:=k,a:=a,b:=b,c:=c,on:=on,kd:=kd,d:=d,vs:=vs} x (krD k a b c on kd d vs)).b),.live (.bools (begK {k:=k,a:=a,b:=b,c:=c,on:=on,kd:=kd,d:=d,vs:=vs} x (krD k a b c on kd d vs)).c),.live (.ints .i64 (begK {k:=k,a:=a,b:=b,c:=c,on:=on,kd:=kd,d:=d,vs:=vs} x (krD k a b c on kd d vs)).d)],(decide (d.length≤274877906944)&&(!!kokL k a b c on kd d vs&&(!!kokL k a b c on kd d vs&&(!!kokL k a b c on kd d vs&&((!bif !kokL k a b c on kd d vs then true else !bet x 1 2)&&((!k==x)&&(decide (d.length≤274877906944)&&(decide ((krD k a b c on kd d vs).length=(krD k a b c on kd d vs).length)&&(decide (d.length≤274877906944)&&((decide ((krD k a b c on kd d vs).length≤274877906944))&&true)))))))))),[]⟩:=by kernel_rfl
def tbK (x:PK) (kind:Int):PK:=bif x.ok&&bet kind 1 2 then(bif x.k==kind then x else begK x kind (krD x.k x.a x.b x.c x.on x.kd x.d x.vs))else PK0
def tbB (x:PK) (kind:Int):Bool:=bif x.ok&&bet kind 1 2 then(bif x.k==kind then false else begB x kind (krD x.k x.a x.b x.c x.on x.kd x.d x.vs))else false
theorem rdX_len (k:Int) (w v:List Int):(rdX k w v).length≤4:=by
 unfold rdX
 cases rdB k w v<;>simp[sol4]
theorem rdD_len (k:Int) (a b:List Int) (c:List Bool):(rdD k a b c).length≤4:=by
 unfold rdD
 split
 ·exact rdX_len _ _ _
 ·simp
theorem krD_len (k:Int) (a b:List Int) (c:List Bool) (on:Bool) (kd:Int) (d:List Int) (vs:Int) (hd:d.length≤274877906944):(krD k a b c on kd d vs).length≤274877906944:=by
 unfold krD
 have:=rdD_len k a b c
 cases kokL k a b c on kd d vs
 ·simp
 ·cases on
  ·simp only[cond_true,cond_false];omega
  ·exact hd
def FFtb:Model:=fun args h=>
 match args,h with
 |[.agg [.int .i64 k,.view _ (.ints .i64 a) n1 1 _,.view _ (.ints .i64 b) n2 1 _,.view _ (.bools c) n3 1 _,.bool on,.int .i64 kd,.view _ (.ints .i64 d) n4 1 _,.int .i64 vs],.c (.int .i64 x)],[]=>
  some (.tup [.agg (tbK ⟨k,a,b,c,on,kd,d,vs⟩ x).cells,.c (.bool (tbB ⟨k,a,b,c,on,kd,d,vs⟩ x))],[.live (.ints .i64 (tbK ⟨k,a,b,c,on,kd,d,vs⟩ x).a),.live (.ints .i64 (tbK ⟨k,a,b,c,on,kd,d,vs⟩ x).b),.live (.bools (tbK ⟨k,a,b,c,on,kd,d,vs⟩ x).c),.live (.ints .i64 (tbK ⟨k,a,b,c,on,kd,d,vs⟩ x).d)],[decide (d.length≤274877906944)])
 |_,_=>none
theorem m42:ModelN Tryz.prog 89 FFtb:=by
 intro args h res h' o hnorm he ho
 unfold FFtb at he
 split at he
 case h_2=>cases he
 rename_i k nl1 a n1 cap1 nl2 b n2 cap2 nl3 c n3 cap3 on kd nl4 d n4 cap4 vs x
 simp only[Option.some.injEq,Prod.mk.injEq]at he
 obtain⟨rfl,rfl,rfl⟩:=he
 simp only[List.mem_cons,List.not_mem_nil,or_false,forall_eq_or_imp,forall_eq,decide_eq_true_eq]at ho
 have o1:=ho
 simp only[normA,AV.norm,normL,Cell.norm,Con.size,List.cons.injEq,AV.c.injEq,AV.agg.injEq,Cell.view.injEq,nlen_one,true_and,and_true]at hnorm
 obtain⟨⟨rfl,rfl,rfl⟩,⟨rfl,rfl,rfl⟩,⟨rfl,rfl,rfl⟩,rfl,rfl,rfl⟩:=hnorm
 unfold tbK tbB PK.ok
 dsimp only
 cases h:kokL k a b c on kd d vs with
 |false=>exact zeroT (meets_of t45 (by kernel_rfl) (by kernel_rfl) (x42_1 k a b c on kd d vs x) (by simp[h,o1]) (by simp) (fun cc _=>LcOk.nil))
 |true=>
  obtain⟨ha,hb,hc⟩:=kok_shape h
  cases hx:bet x 1 2 with
  |false=>exact zeroT (meets_of t45 (by kernel_rfl) (by kernel_rfl) (x42_2 k a b c on kd d vs x) (by simp[h,hx,o1]) (by simp) (fun cc _=>LcOk.nil))
  |true=>
   cases hk:k==x with
   |true=>exact meets_of t45 (by kernel_rfl) (by kernel_rfl) (x42_3 k a b c on kd d vs x) (by simp only[h,hx,hk,o1,ha,hb,hc,bS];simp) (by simp) (fun cc _=>LcOk.nil)
   |false=>
    have:=krD_len k a b c on kd d vs o1
    exact meets_of t45 (by kernel_rfl) (by kernel_rfl) (x42_4 k a b c on kd d vs x) (by simp only[h,hx,hk,o1,this,bS]) (by simp) (fun cc _=>LcOk.nil)
end Go.Proofs.YthapjdpkelihiaaGreat.Am
end
section
namespace Go.Proofs.YthapjdpkelihiaaGreat.Am
theorem Weak.froz (m t id:Nat) {s:St} {len es:Nat} {cap:Option Nat} {c:Con} (h1:s.tmps.getD t (.tup [])=.c (.sl id 0 len es cap)) (h2:Heap.get s.heap id=.live c) (hf:c.free=true) (hz:len*es=c.size):
  Weak m s ⟨s.tmps.set t (.c (.view none c len es cap)),s.heap.set id .dead⟩:=fun X w0 ρ0 ρ a w h0 r=>by
 obtain⟨mo,m2⟩:=r.mem.kill (id:=id) (by rw[h2];simp)
 refine⟨upd ρ id .dead,⟨by simpa using r.size,fun u hu=> ?_,m2,r.defers,r.mono.trans mo.toB,r.ids.trans mo.ids⟩⟩
 simp only[List.length_set]at hu
 dsimp only
 by_cases e:u=t
 ·subst e
  have hx:=r.tmps u hu
  rw[h1]at hx
  have:(s.tmps.set u (.c (.view none c len es cap))).getD u (.tup [])=.c (.view none c len es cap):=by
   rw[List.getD_eq_getElem?_getD,List.getElem?_set_self hu];rfl
  rw[this]
  generalize a.tmps.getD u undef=v at hx⊢
  cases hx with
  |c x v hx=>
   refine .c _ _ ?_
   have nl: ∀b,ρ id=.row b→ ¬(liveB (upd ρ id .dead) b∨X b):=by
    rintro b hb (⟨j,hj⟩|hxb)
    ·by_cases ej:j=id
     ·subst ej;rw[upd_same]at hj;cases hj
     ·rw[upd_ne _ _ ej]at hj;exact ej (r.mem.inj j id b hj hb)
    ·exact r.mem.notX hb hxb
   rcases live_sl r.mem h2 hx with⟨b,k,ty,n,hb,rfl,⟨cs,ty',hrow,hsz,hcs⟩,hsh,hn,hl',hcap⟩|⟨ad,rfl,rfl,hcap⟩
   ·rw[Nat.zero_mul]
    refine .view none c len es cap b 0 k (fun q=>cs.getD q undef) (fun _ h=>nl b hb h) (fun q hq=> ?_) (fun q hq=> ?_) hz hl' hcap (fun _ h=>by cases h)
    ·have hq':q<cs.size:=by omega
     simp[World.cell?,hrow,Array.getD,hq']
    ·exact CR0.mono (mo.toB.or X) ((hcs q hq).free (free_cell hf q)) (IdMono.noIds _)
   ·exact .viewNone none c es cap ad 0 (by omega) hcap (fun _ h=>by cases h) (fun _=>rfl)
 ·have:(s.tmps.set t (.c (.view none c len es cap))).getD u (.tup [])=s.tmps.getD u (.tup []):=by
   rw[List.getD_eq_getElem?_getD,List.getElem?_set_ne (fun h=>e h.symm),←List.getD_eq_getElem?_getD]
  rw[this]
  exact(r.tmps u hu).mono mo
end Go.Proofs.YthapjdpkelihiaaGreat.Am
end
section
namespace Go.Proofs.YthapjdpkelihiaaGreat.Am
theorem sumL_len (v w:List Int):(sumL v w).length=v.length:=mapAt_len _ _ _
theorem scaleL_len (v:List Int) (c:Int):(scaleL v c).length=v.length:=mapAt_len _ _ _
theorem mapAt_fok {f:Nat→Int} (h: ∀i,fok (f i)=true): ∀k i,allFok (mapAt f k i)=true
 |0,_=>rfl
 |k+1,i=>by simp only[mapAt,allFok,List.all_cons,h,Bool.true_and];exact mapAt_fok h k (i+1)
theorem sumL_fok (v w:List Int):allFok (sumL v w)=true:=mapAt_fok (fun i=>fok_mod _) _ _
theorem scaleL_fok (v:List Int) (c:Int):allFok (scaleL v c)=true:=mapAt_fok (fun i=>fok_mod _) _ _
def FFsumV:Model:=fun args h=>
 match args,h with
 |[.c (.view _ (.ints .i64 v) n 1 _),.c (.view _ (.ints .i64 w) n2 1 _)],[]=>
  some (.c (.view none (.ints .i64 (sumL v w)) v.length 1 none),[],[decide (v.length≤274877906944),decide (v.length≤w.length),allFok v,allFok w])
 |_,_=>none
theorem m180v:ModelN Tryz.prog 218 FFsumV:=by
 intro args h res h' o hnorm he ho
 unfold FFsumV at he
 split at he
 case h_2=>cases he
 rename_i nl v n cap nl2 w n2 cap2
 simp only[Option.some.injEq,Prod.mk.injEq]at he
 obtain⟨rfl,rfl,rfl⟩:=he
 simp only[List.mem_cons,List.not_mem_nil,or_false,forall_eq_or_imp,forall_eq,decide_eq_true_eq]at ho
 obtain⟨o1,o2,o3,o4⟩:=ho
 simp only[normA,AV.norm,normL,Cell.norm,Con.size,List.cons.injEq,AV.c.injEq,AV.agg.injEq,Cell.view.injEq,nlen_one,true_and,and_true]at hnorm
 obtain⟨⟨rfl,rfl,rfl⟩,rfl,rfl,rfl⟩:=hnorm
 exact(m180 t5 [.c (.view none (.ints .i64 v) v.length 1 none),.c (.view none (.ints .i64 w) w.length 1 none)] [] _ _ _ rfl (by simp[o1,o2,o3,o4])).views (o:=[decide (v.length=(sumL v w).length)]) rfl (by simp[sumL_len])
def FFscaleV:Model:=fun args h=>
 match args,h with
 |[.c (.view _ (.ints .i64 v) n 1 _),.c (.int .i64 c)],[]=>
  some (.c (.view none (.ints .i64 (scaleL v c)) v.length 1 none),[],[decide (v.length≤274877906944),allFok v,fok c])
 |_,_=>none
theorem m156v:ModelN Tryz.prog 194 FFscaleV:=by
 intro args h res h' o hnorm he ho
 unfold FFscaleV at he
 split at he
 case h_2=>cases he
 rename_i nl v n cap c
 simp only[Option.some.injEq,Prod.mk.injEq]at he
 obtain⟨rfl,rfl,rfl⟩:=he
 simp only[List.mem_cons,List.not_mem_nil,or_false,forall_eq_or_imp,forall_eq,decide_eq_true_eq]at ho
 obtain⟨o1,o2,o3⟩:=ho
 simp only[normA,AV.norm,normL,Cell.norm,Con.size,List.cons.injEq,AV.c.injEq,AV.agg.injEq,Cell.view.injEq,nlen_one,true_and,and_true]at hnorm
 obtain⟨rfl,rfl,rfl⟩:=hnorm
 exact(m156 t5 [.c (.view none (.ints .i64 v) v.length 1 none),.c (.int .i64 c)] [] _ _ _ rfl (by simp[o1,o2,o3])).views (o:=[decide (v.length=(scaleL v c).length)]) rfl (by simp[scaleL_len])
noncomputable def T46:List Entry:=[⟨89,[],nm FFtb⟩,⟨218,[],nm FFsumV⟩,⟨194,[],nm FFscaleV⟩]++T45
theorem e46:EntriesOk Tryz.prog T46:=by
 refine EntriesOk.append ?_ e45
 intro e he
 simp only[List.mem_cons,List.not_mem_nil,or_false]at he
 rcases he with rfl|rfl|rfl
 ·exact m42.ok
 ·exact m180v.ok
 ·exact m156v.ok
theorem t46:CtOk Tryz.prog (ctOf T46):=ctOf_ok e46
theorem x155_1 (v w:List Int):evalF tt (ctOf T46) ([]) 100 Tryz.f193 [.c (.view none (.ints .i64 v) v.length 1 none),.c (.view none (.ints .i64 w) w.length 1 none)] [] []=
  some ⟨.c (.view none (.ints .i64 (sumL v (scaleL w ((IntKind.i64.wrap (31-(IntKind.i64.wrap (v.getD (leadL w).toNat 0*inv (w.getD (leadL w).toNat 0))).tmod 31)).tmod 31)))) v.length 1 none),[],(decide (w.length≤274877906944)&&(decide (0≤leadL w)&&(decide (leadL w<(↑v.length:Int))&&(decide ((leadL w).toNat<v.length)&&(decide (0≤leadL w)&&(decide (leadL w<(↑w.length:Int))&&(decide ((leadL w).toNat<w.length)&&(fok (w.getD (leadL w).toNat 0)&&(decide (w.length≤274877906944)&&(allFok w&&(fok ((IntKind.i64.wrap (31-(IntKind.i64.wrap (v.getD (leadL w).toNat 0*inv (w.getD (leadL w).toNat 0))).tmod 31)).tmod 31)&&(decide (v.length≤274877906944)&&(decide (v.length≤(scaleL w ((IntKind.i64.wrap (31-(IntKind.i64.wrap (v.getD (leadL w).toNat 0*inv (w.getD (leadL w).toNat 0))).tmod 31)).tmod 31)).length)&&(allFok v&&((allFok (scaleL w ((IntKind.i64.wrap (31-(IntKind.i64.wrap (v.getD (leadL w).toNat 0*inv (w.getD (leadL w).toNat 0))).tmod 31)).tmod 31)))&&true))))))))))))))),[]⟩:=by kernel_rfl
def nlC (v w:List Int):Int:=(31-v.getD (leadL w).toNat 0*inv (w.getD (leadL w).toNat 0)%31)%31
def nlL (v w:List Int):List Int:=sumL v (scaleL w (nlC v w))
theorem leadAt_lt {v:List Int}: ∀(f i j:Nat),leadAt v f i=some j→i≤j∧j<i+f
 |0,i,j,h=>by simp[leadAt]at h
 |f+1,i,j,h=>by
  simp only[leadAt]at h
  split at h
  ·have:=leadAt_lt f (i+1) j h;omega
  ·injection h with h;omega
theorem leadL_lt (w:List Int):leadL w<w.length∨w=[]:=by
 by_cases hw:w=[]
 ·exact .inr hw
 ·refine .inl ?_
  have h0:0<w.length:=List.length_pos_iff.2 hw
  unfold leadL
  cases h:leadO w with
  |none=>dsimp only;omega
  |some j=>
   have:=leadAt_lt w.length 0 j h
   dsimp only;omega
theorem nlC_raw {v w:List Int} (hv:allFok v=true):(IntKind.i64.wrap (31-(IntKind.i64.wrap (v.getD (leadL w).toNat 0*inv (w.getD (leadL w).toNat 0))).tmod 31)).tmod 31=nlC v w:=by
 have hf:=allFok_get hv (leadL w).toNat
 have hi:=inv_fok (w.getD (leadL w).toNat 0)
 obtain⟨m1,m2⟩:=mul_bound hf hi
 rw[wrap_mul hf hi,mod_pos m1,wrap_mid (by omega) (by omega),mod_pos (by omega)];rfl
def FFless3:Model:=fun args h=>
 match args,h with
 |[.c (.view _ (.ints .i64 v) n 1 _),.c (.view _ (.ints .i64 w) n2 1 _)],[]=>
  some (.c (.view none (.ints .i64 (nlL v w)) v.length 1 none),[],[decide (v.length≤274877906944),decide (v.length=w.length),allFok v,allFok w,decide (0≤leadL w)])
 |_,_=>none
theorem m155:ModelN Tryz.prog 193 FFless3:=by
 intro args h res h' o hnorm he ho
 unfold FFless3 at he
 split at he
 case h_2=>cases he
 rename_i nl v n cap nl2 w n2 cap2
 simp only[Option.some.injEq,Prod.mk.injEq]at he
 obtain⟨rfl,rfl,rfl⟩:=he
 simp only[List.mem_cons,List.not_mem_nil,or_false,forall_eq_or_imp,forall_eq,decide_eq_true_eq]at ho
 obtain⟨o1,o2,o3,o4,o5⟩:=ho
 simp only[normA,AV.norm,normL,Cell.norm,Con.size,List.cons.injEq,AV.c.injEq,AV.agg.injEq,Cell.view.injEq,nlen_one,true_and,and_true]at hnorm
 obtain⟨⟨rfl,rfl,rfl⟩,rfl,rfl,rfl⟩:=hnorm
 have hl:=leadL_lt w
 have hl':leadL w<w.length:=by
  rcases hl with h|h
  ·exact h
  ·subst h;simp[leadL,leadO,leadAt]at o5
 have e:=x155_1 v w
 rw[nlC_raw o3]at e
 exact meets_of t46 (by kernel_rfl) (by kernel_rfl) e (by
  have hc:fok (nlC v w)=true:=fok_mod _
  simp only[allFok_get o4,hc,o3,o4,scaleL_fok,scaleL_len,Bool.true_and,Bool.and_true,Bool.and_eq_true,decide_eq_true_eq,true_and,and_true]
  omega) (by simp) (fun cc _=>LcOk.nil)
noncomputable def T47:List Entry:=[⟨193,[],nm FFless3⟩]++T46
theorem e47:EntriesOk Tryz.prog T47:=by
 refine EntriesOk.append ?_ e46
 intro e he
 simp only[List.mem_cons,List.not_mem_nil,or_false]at he
 subst he;exact m155.ok
theorem t47:CtOk Tryz.prog (ctOf T47):=ctOf_ok e47
noncomputable abbrev f153:=Tryz.f189
theorem nlL_len (v w:List Int):(nlL v w).length=v.length:=sumL_len _ _
theorem nlL_fok (v w:List Int):allFok (nlL v w)=true:=sumL_fok _ _
noncomputable def I153 (ti:List (List Int)) (v:List Int) (n:Nat) (i:Int):St:=
 stOf f153.ntmps [(0,.c (.view none (.ivs .i64 ti) ti.length 1 none)),(1,.c (.view none (.ints .i64 v) n 1 none)),(5,.c (.int .i64 i))] []
noncomputable def X153 (ti:List (List Int)) (v:List Int) (n:Nat):St:=
 stOf f153.ntmps [(0,.c (.view none (.ivs .i64 ti) ti.length 1 none)),(1,.c (.view none (.ints .i64 v) n 1 none))] []
theorem r153_1 (ti:List (List Int)) (v:List Int) (n:Nat) (i:Int):roundR 0 (liveH f153 0) (liveB' f153 0) (evalC tt (ctOf T47) ([]) 0 100 (bodyAt 0 (codeOf f153)) (I153 ti v n i) [(0,true)])=
  some (.normal,(decide (i<(↑ti.length:Int))&&(decide (0≤i)&&(decide (i<(↑ti.length:Int))&&(decide (i.toNat<ti.length)&&(decide (v.length≤274877906944)&&(decide (v.length=(ti.getD i.toNat []).length)&&(allFok v&&(allFok (ti.getD i.toNat [])&&((decide (0≤leadL (ti.getD i.toNat [])))&&true))))))))),[],I153 ti (nlL v (ti.getD i.toNat [])) (v.length) (IntKind.i64.wrap (i+1))):=by kernel_rfl
theorem r153_2 (ti:List (List Int)) (v:List Int) (n:Nat) (i:Int):roundR 0 (liveH f153 0) (liveB' f153 0) (evalC tt (ctOf T47) ([]) 0 100 (bodyAt 0 (codeOf f153)) (I153 ti v n i) [(0,false)])=
  some (.exit 0,((!decide (i<(↑ti.length:Int)))&&true),[],X153 ti (v) (n)):=by kernel_rfl
noncomputable def J153 (ti:List (List Int)) (v:List Int) (n:Nat) (ld:Int) (m:Nat) (out:List (List Int)) (put:Bool) (i:Int):St:=
 stOf f153.ntmps [(0,.c (.view none (.ivs .i64 ti) ti.length 1 none)),(1,.c (.view none (.ints .i64 v) n 1 none)),(6,.c (.int .i64 ld)),(7,.c (.sl 0 0 m 1 none)),(8,.c (.bool put)),(9,.c (.int .i64 i))] [.live (.ivs .i64 out)]
noncomputable def Y153 (v:List Int) (n m:Nat) (out:List (List Int)) (put:Bool):St:=
 stOf f153.ntmps [(1,.c (.view none (.ints .i64 v) n 1 none)),(7,.c (.sl 0 0 m 1 none)),(8,.c (.bool put))] [.live (.ivs .i64 out)]
theorem r153b_1 (ti:List (List Int)) (v:List Int) (n:Nat) (ld:Int) (m:Nat) (out:List (List Int)) (put:Bool) (i:Int):roundR 0 (liveH f153 2) (liveB' f153 2) (evalC tt (ctOf T47) ([]) 0 100 (bodyAt 2 (codeOf f153)) (J153 ti v n ld m out put i) [(0,true),(0,true),(0,true)])=
  some (.normal,(decide (i<(↑ti.length:Int))&&((!put)&&((!put)&&((!put)&&(decide (0≤i)&&(decide (i<(↑ti.length:Int))&&((!put)&&(decide (i.toNat<ti.length)&&((!put)&&(decide ((ti.getD i.toNat []).length≤274877906944)&&((!put)&&((!put)&&((bif !put then decide (leadL (ti.getD i.toNat [])>ld)else false)&&(decide (m=out.length)&&(decide (m+1≤274877906944)&&(decide (0≤i)&&(decide (i<(↑ti.length:Int))&&(decide (i.toNat<ti.length)&&(decide ((ti.getD i.toNat []).length≤274877906944)&&(decide ((ti.getD i.toNat []).length=v.length)&&(allFok (ti.getD i.toNat [])&&(allFok v&&(decide (0≤leadL v)&&(decide (m+1=(out++[v]).length)&&((decide (m+1+1≤274877906944))&&true))))))))))))))))))))))))),[],J153 ti v n ld (m+1+1) (out++[v]++[nlL (ti.getD i.toNat []) v]) (true) (IntKind.i64.wrap (i+1))):=by kernel_rfl
theorem r153b_2 (ti:List (List Int)) (v:List Int) (n:Nat) (ld:Int) (m:Nat) (out:List (List Int)) (put:Bool) (i:Int):roundR 0 (liveH f153 2) (liveB' f153 2) (evalC tt (ctOf T47) ([]) 0 100 (bodyAt 2 (codeOf f153)) (J153 ti v n ld m out put i) [(0,true),(0,true),(0,false)])=
  some (.normal,(decide (i<(↑ti.length:Int))&&((!put)&&((!put)&&((!put)&&(decide (0≤i)&&(decide (i<(↑ti.length:Int))&&((!put)&&(decide (i.toNat<ti.length)&&((!put)&&(decide ((ti.getD i.toNat []).length≤274877906944)&&((!put)&&((!put)&&((!bif !put then decide (leadL (ti.getD i.toNat [])>ld)else false)&&(decide (0≤i)&&(decide (i<(↑ti.length:Int))&&(decide (i.toNat<ti.length)&&(decide ((ti.getD i.toNat []).length≤274877906944)&&(decide ((ti.getD i.toNat []).length=v.length)&&(allFok (ti.getD i.toNat [])&&(allFok v&&(decide (0≤leadL v)&&(decide (m=out.length)&&((decide (m+1≤274877906944))&&true))))))))))))))))))))))),[],J153 ti v n ld (m+1) (out++[nlL (ti.getD i.toNat []) v]) (put) (IntKind.i64.wrap (i+1))):=by kernel_rfl
theorem r153b_3 (ti:List (List Int)) (v:List Int) (n:Nat) (ld:Int) (m:Nat) (out:List (List Int)) (put:Bool) (i:Int):roundR 0 (liveH f153 2) (liveB' f153 2) (evalC tt (ctOf T47) ([]) 0 100 (bodyAt 2 (codeOf f153)) (J153 ti v n ld m out put i) [(0,true),(0,false)])=
  some (.normal,(decide (i<(↑ti.length:Int))&&((!!put)&&((!!put)&&((!!put)&&((!!put)&&((!!put)&&((!!put)&&((!!put)&&((!!put)&&(decide (0≤i)&&(decide (i<(↑ti.length:Int))&&(decide (i.toNat<ti.length)&&(decide ((ti.getD i.toNat []).length≤274877906944)&&(decide ((ti.getD i.toNat []).length=v.length)&&(allFok (ti.getD i.toNat [])&&(allFok v&&(decide (0≤leadL v)&&(decide (m=out.length)&&((decide (m+1≤274877906944))&&true))))))))))))))))))),[],J153 ti v n ld (m+1) (out++[nlL (ti.getD i.toNat []) v]) (put) (IntKind.i64.wrap (i+1))):=by kernel_rfl
theorem r153b_4 (ti:List (List Int)) (v:List Int) (n:Nat) (ld:Int) (m:Nat) (out:List (List Int)) (put:Bool) (i:Int):roundR 0 (liveH f153 2) (liveB' f153 2) (evalC tt (ctOf T47) ([]) 0 100 (bodyAt 2 (codeOf f153)) (J153 ti v n ld m out put i) [(0,false)])=
  some (.exit 2,((!decide (i<(↑ti.length:Int)))&&true),[],Y153 v n (m) (out) (put)):=by kernel_rfl
end Go.Proofs.YthapjdpkelihiaaGreat.Am
end
