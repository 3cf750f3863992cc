/- DERIVED. Part 6 of the proof: C34, C35, C36, C37, C38, C39, Am32, C41. No statement of the program is proved here. -/
import Derived.Test.YthapjdpkelihiaaGreatX05
set_option linter.unusedSimpArgs false
set_option linter.unusedVariables false
set_option linter.unusedSectionVars false
namespace Go.Proofs.YthapjdpkelihiaaGreat.Am
section
def BB:aQ:=fun args h=>
 match args,h with
 |[.c (.sl 0 0 n 1 none),.c (.fn 134 [.ptr 1 0 0 0])],[.live (.ints .i64 v),.live (.cells [.int .i64 k,.view nl1 (.ints .i64 a) n1 1 cap1,.view nl2 (.ints .i64 b) n2 1 cap2,.view nl3 (.bools c) n3 1 cap3])]=>
  some (.c (.int .i64 (cV (fun x=> !cJ k a (ofL b c x)) v)),[.live (.ints .i64 v),.live (.cells [.int .i64 k,.view nl1 (.ints .i64 a) n1 1 cap1,.view nl2 (.ints .i64 b) n2 1 cap2,.view nl3 (.bools c) n3 1 cap3])],[decide (v.length≤274877906944),decide (v.length=n),decide (c.length=8),decide (b.length=8),bet k 1 2,decide (a.length=8),a9 a])
 |_,_=>none
theorem OK (k:Int) (n1 n2 n3:Nat) (nl1 nl2 nl3:Option Bool) (cap1 cap2 cap3:Option Nat) (a b:List Int) (c:List Bool) (v:List Int):aG tt (aB T37) ([(0,⟨aA fA 0,jS k n1 n2 n3 nl1 nl2 nl3 cap1 cap2 cap3 a b c v 0,.normal,H5 k n1 n2 n3 nl1 nl2 nl3 cap1 cap2 cap3 a b c v⟩)]) 100 fA [.c (.sl 0 0 v.length 1 none),.c (.fn 134 [.ptr 1 0 0 0])] [.live (.ints .i64 v),.live (.cells [.int .i64 k,.view nl1 (.ints .i64 a) n1 1 cap1,.view nl2 (.ints .i64 b) n2 1 cap2,.view nl3 (.bools c) n3 1 cap3])] []=
  some ⟨.c (.int .i64 (-1)),[.live (.ints .i64 v),.live (.cells [.int .i64 k,.view nl1 (.ints .i64 a) n1 1 cap1,.view nl2 (.ints .i64 b) n2 1 cap2,.view nl3 (.bools c) n3 1 cap3])],true,[jS k n1 n2 n3 nl1 nl2 nl3 cap1 cap2 cap3 a b c v 0=jS k n1 n2 n3 nl1 nl2 nl3 cap1 cap2 cap3 a b c v 0]⟩:=by kernel_rfl
theorem OL (k:Int) (n1 n2 n3:Nat) (nl1 nl2 nl3:Option Bool) (cap1 cap2 cap3:Option Nat) (a b:List Int) (c:List Bool) (v:List Int) (j:Nat):aG tt (aB T37) ([(0,⟨aA fA 0,jS k n1 n2 n3 nl1 nl2 nl3 cap1 cap2 cap3 a b c v 0,.ret,HB k n1 n2 n3 nl1 nl2 nl3 cap1 cap2 cap3 a b c v j⟩)]) 100 fA [.c (.sl 0 0 v.length 1 none),.c (.fn 134 [.ptr 1 0 0 0])] [.live (.ints .i64 v),.live (.cells [.int .i64 k,.view nl1 (.ints .i64 a) n1 1 cap1,.view nl2 (.ints .i64 b) n2 1 cap2,.view nl3 (.bools c) n3 1 cap3])] []=
  some ⟨.c (.int .i64 (↑j:Int)),[.live (.ints .i64 v),.live (.cells [.int .i64 k,.view nl1 (.ints .i64 a) n1 1 cap1,.view nl2 (.ints .i64 b) n2 1 cap2,.view nl3 (.bools c) n3 1 cap3])],true,[jS k n1 n2 n3 nl1 nl2 nl3 cap1 cap2 cap3 a b c v 0=jS k n1 n2 n3 nl1 nl2 nl3 cap1 cap2 cap3 a b c v 0]⟩:=by kernel_rfl
theorem Y0:aS Tryz.prog 176 BB:=by
 intro args h res h' o he ho
 unfold BB at he
 split at he
 case h_2=>cases he
 rename_i n v k nl1 a n1 cap1 nl2 b n2 cap2 nl3 c n3 cap3
 simp only[Option.some.injEq,Prod.mk.injEq]at he
 obtain⟨rfl,rfl,rfl⟩:=he
 simp only[List.mem_cons,List.not_mem_nil,or_false,forall_eq_or_imp,forall_eq,decide_eq_true_eq]at ho
 obtain⟨o1,o2,o3,o4,o5,o6,o7⟩:=ho
 subst o2
 have g:=XE k n1 n2 n3 nl1 nl2 nl3 cap1 cap2 cap3 a b c v o1 (by omega) (by omega) o5 o6 o7 (fun i hi=>⟨(iY o3).2,(iY o3).1,AL o5 o3⟩)
 unfold cV
 cases hx:dV (fun x=> !cJ k a (ofL b c x)) v with
 |none=>
  rw[hx]at g
  exact a5 t37 (fn:=fA) (by kernel_rfl) (by kernel_rfl) (OK k n1 n2 n3 nl1 nl2 nl3 cap1 cap2 cap3 a b c v) rfl (by simp) (fun cc hc=>aF.cons (c:=cc) (by cases hc;kernel_rfl) (by cases hc;exact g) aF.nil)
 |some j=>
  rw[hx]at g
  exact a5 t37 (fn:=fA) (by kernel_rfl) (by kernel_rfl) (OL k n1 n2 n3 nl1 nl2 nl3 cap1 cap2 cap3 a b c v j) rfl (by simp) (fun cc hc=>aF.cons (c:=cc) (by cases hc;kernel_rfl) (by cases hc;exact g) aF.nil)
noncomputable def T38:List bF:=[⟨176,[0,1],BB⟩]++T37
theorem e38:a8 Tryz.prog T38:=by
 refine a8.append ?_ e37
 intro e he
 simp only[List.mem_cons,List.not_mem_nil,or_false]at he
 subst he;exact Y0
theorem t38:bN Tryz.prog (aB T38):=aP e38
theorem OA (k:Int) (n1 n2 n3:Nat) (nl1 nl2 nl3:Option Bool) (cap1 cap2 cap3:Option Nat) (a b:List Int) (c:List Bool) (v:List Int):aG tt (aB T38) ([]) 100 Tryz.f133 [.c (.sl 0 0 v.length 1 none),.c (.fn 134 [.ptr 1 0 0 0])] [.live (.ints .i64 v),.live (.cells [.int .i64 k,.view nl1 (.ints .i64 a) n1 1 cap1,.view nl2 (.ints .i64 b) n2 1 cap2,.view nl3 (.bools c) n3 1 cap3])] []=
  some ⟨.c (.bool (decide (cV (fun x=> !cJ k a (ofL b c x)) v≥0))),[.live (.ints .i64 v),.live (.cells [.int .i64 k,.view nl1 (.ints .i64 a) n1 1 cap1,.view nl2 (.ints .i64 b) n2 1 cap2,.view nl3 (.bools c) n3 1 cap3])],(decide (v.length≤274877906944)&&(decide (v.length=v.length)&&(decide (c.length=8)&&(decide (b.length=8)&&(bet k 1 2&&(decide (a.length=8)&&((a9 a)&&true))))))),[]⟩:=by kernel_rfl
theorem J9 (q:Int→Bool) (v:List Int):decide (cV (fun x=> !q x) v≥0)= !v.all q:=by
 unfold cV
 cases h:dV (fun x=> !q x) v with
 |none=>
  have:=jH h
  have ha:v.all q=true:=by
   rw[List.all_eq_true]
   intro x hx
   obtain⟨i,hi⟩:=List.getElem?_of_mem hx
   have hlt:=(List.getElem?_eq_some_iff.1 hi).1
   have h1:=this i (by omega) (by omega)
   rw[List.getD_eq_getElem?_getD,hi]at h1
   simpa using h1
  rw[ha];decide
 |some j=>
  obtain⟨h1,h2,h3,h4⟩:=mJ h
  have ha:v.all q=false:=by
   rw[List.all_eq_false]
   refine⟨v.getD j 0, ?_,by simpa using h3⟩
   rw[List.getD_eq_getElem?_getD,List.getElem?_eq_getElem (by omega)]
   exact List.getElem_mem _
  rw[ha]
  dsimp only
  simp
def B4:aQ:=fun args h=>
 match args,h with
 |[.c (.sl 0 0 n 1 none),.c (.fn 134 [.ptr 1 0 0 0])],[.live (.ints .i64 v),.live (.cells [.int .i64 k,.view nl1 (.ints .i64 a) n1 1 cap1,.view nl2 (.ints .i64 b) n2 1 cap2,.view nl3 (.bools c) n3 1 cap3])]=>
  some (.c (.bool (!v.all fun x=>cJ k a (ofL b c x))),[.live (.ints .i64 v),.live (.cells [.int .i64 k,.view nl1 (.ints .i64 a) n1 1 cap1,.view nl2 (.ints .i64 b) n2 1 cap2,.view nl3 (.bools c) n3 1 cap3])],[decide (v.length≤274877906944),decide (v.length=n),decide (c.length=8),decide (b.length=8),bet k 1 2,decide (a.length=8),a9 a])
 |_,_=>none
theorem XW:aS Tryz.prog 133 B4:=by
 intro args h res h' o he ho
 unfold B4 at he
 split at he
 case h_2=>cases he
 rename_i n v k nl1 a n1 cap1 nl2 b n2 cap2 nl3 c n3 cap3
 simp only[Option.some.injEq,Prod.mk.injEq]at he
 obtain⟨rfl,rfl,rfl⟩:=he
 simp only[List.mem_cons,List.not_mem_nil,or_false,forall_eq_or_imp,forall_eq,decide_eq_true_eq]at ho
 obtain⟨o1,o2,o3,o4,o5,o6,o7⟩:=ho
 subst o2
 have e:=OA k n1 n2 n3 nl1 nl2 nl3 cap1 cap2 cap3 a b c v
 rw[J9 (fun x=>cJ k a (ofL b c x))]at e
 exact a5 t38 (by kernel_rfl) (by kernel_rfl) e (by simp[o1,o3,o4,o5,o6,o7]) (by simp) (fun c _=>aF.nil)
noncomputable def T39:List bF:=[⟨133,[0,1],B4⟩]++T38
theorem e39:a8 Tryz.prog T39:=by
 refine a8.append ?_ e38
 intro e he
 simp only[List.mem_cons,List.not_mem_nil,or_false]at he
 subst he;exact XW
theorem t39:bN Tryz.prog (aB T39):=aP e39
noncomputable abbrev f72:=Tryz.f83
end
section
noncomputable def I72 (k:Int) (a b:List Int) (c:List Bool) (i:Int):St:=
  bA f72.ntmps [(1,.c (.ptr 0 0 0 0)),(15,.c (.view none (.bools c) c.length 1 none)),(16,.c (.int .i64 c.length)),(17,.c (.int .i64 i))]
   [.live (.cells [.int .i64 k,.view none (.ints .i64 a) a.length 1 none,.view none (.ints .i64 b) b.length 1 none,.view none (.bools c) c.length 1 none])]
noncomputable def X72 (k:Int) (a b:List Int) (c:List Bool):St:=
  bA f72.ntmps [(1,.c (.ptr 0 0 0 0))]
   [.live (.cells [.int .i64 k,.view none (.ints .i64 a) a.length 1 none,.view none (.ints .i64 b) b.length 1 none,.view none (.bools c) c.length 1 none])]
noncomputable def Y72 (k:Int) (a b:List Int) (c:List Bool):St:=
  bA f72.ntmps [(1,.c (.ptr 0 0 0 0)),(2,.c (.bool false))]
   [.live (.cells [.int .i64 k,.view none (.ints .i64 a) a.length 1 none,.view none (.ints .i64 b) b.length 1 none,.view none (.bools c) c.length 1 none])]
theorem ZY (k:Int) (a b:List Int) (c:List Bool) (i:Int):aH 0 (aA f72 0) (aD f72 0) (aK tt (aB T39) ([]) 0 100 (a6 0 (a7 f72)) (I72 k a b c i) [(0,true),(0,true),(0,true),(0,true)])=
  some (.ret,(decide (i<(↑c.length:Int))&&(decide (0≤i)&&(decide (i<(↑c.length:Int))&&(decide (i.toNat<c.length)&&((c.getD i.toNat false)&&((c.getD i.toNat false)&&((c.getD i.toNat false)&&((c.getD i.toNat false)&&(decide (0≤i)&&(decide (i<(↑a.length:Int))&&((c.getD i.toNat false)&&(decide (i.toNat<a.length)&&((c.getD i.toNat false)&&((c.getD i.toNat false)&&((c.getD i.toNat false)&&(!fok (a.getD i.toNat 0)&&(!fok (a.getD i.toNat 0)&&(!fok (a.getD i.toNat 0)&&(!fok (a.getD i.toNat 0)&&(!fok (a.getD i.toNat 0)&&(!fok (a.getD i.toNat 0)&&(!fok (a.getD i.toNat 0)&&((c.getD i.toNat false)&&(!fok (a.getD i.toNat 0)&&((bif c.getD i.toNat false then true else false)&&((bif c.getD i.toNat false then true else false)&&((bif c.getD i.toNat false then true else false)&&((bif c.getD i.toNat false then true else false)&&((bif c.getD i.toNat false then true else false)&&true))))))))))))))))))))))))))))),[],Y72 k a b c):=by kernel_rfl
theorem ZZ (k:Int) (a b:List Int) (c:List Bool) (i:Int):aH 0 (aA f72 0) (aD f72 0) (aK tt (aB T39) ([]) 0 100 (a6 0 (a7 f72)) (I72 k a b c i) [(0,true),(0,true),(0,false),(0,true)])=
  some (.ret,(decide (i<(↑c.length:Int))&&(decide (0≤i)&&(decide (i<(↑c.length:Int))&&(decide (i.toNat<c.length)&&((c.getD i.toNat false)&&((c.getD i.toNat false)&&((c.getD i.toNat false)&&((c.getD i.toNat false)&&(decide (0≤i)&&(decide (i<(↑a.length:Int))&&((c.getD i.toNat false)&&(decide (i.toNat<a.length)&&((c.getD i.toNat false)&&((c.getD i.toNat false)&&((c.getD i.toNat false)&&(!!fok (a.getD i.toNat 0)&&(!!fok (a.getD i.toNat 0)&&(!!fok (a.getD i.toNat 0)&&(!!fok (a.getD i.toNat 0)&&(decide (0≤i)&&(decide (i<(↑b.length:Int))&&(!!fok (a.getD i.toNat 0)&&(decide (i.toNat<b.length)&&(!!fok (a.getD i.toNat 0)&&(!!fok (a.getD i.toNat 0)&&((c.getD i.toNat false)&&((bif c.getD i.toNat false then bif !fok (a.getD i.toNat 0)then true else !bet (b.getD i.toNat 0) 1 99 else false)&&((bif c.getD i.toNat false then bif !fok (a.getD i.toNat 0)then true else !bet (b.getD i.toNat 0) 1 99 else false)&&((bif c.getD i.toNat false then bif !fok (a.getD i.toNat 0)then true else !bet (b.getD i.toNat 0) 1 99 else false)&&((bif c.getD i.toNat false then bif !fok (a.getD i.toNat 0)then true else !bet (b.getD i.toNat 0) 1 99 else false)&&((bif c.getD i.toNat false then bif !fok (a.getD i.toNat 0)then true else !bet (b.getD i.toNat 0) 1 99 else false)&&true))))))))))))))))))))))))))))))),[],Y72 k a b c):=by kernel_rfl
theorem a00 (k:Int) (a b:List Int) (c:List Bool) (i:Int):aH 0 (aA f72 0) (aD f72 0) (aK tt (aB T39) ([]) 0 100 (a6 0 (a7 f72)) (I72 k a b c i) [(0,true),(0,true),(0,false),(0,false),(0,false),(0,false)])=
  some (.normal,(decide (i<(↑c.length:Int))&&(decide (0≤i)&&(decide (i<(↑c.length:Int))&&(decide (i.toNat<c.length)&&((c.getD i.toNat false)&&((c.getD i.toNat false)&&((c.getD i.toNat false)&&((c.getD i.toNat false)&&(decide (0≤i)&&(decide (i<(↑a.length:Int))&&((c.getD i.toNat false)&&(decide (i.toNat<a.length)&&((c.getD i.toNat false)&&((c.getD i.toNat false)&&((c.getD i.toNat false)&&(!!fok (a.getD i.toNat 0)&&(!!fok (a.getD i.toNat 0)&&(!!fok (a.getD i.toNat 0)&&(!!fok (a.getD i.toNat 0)&&(decide (0≤i)&&(decide (i<(↑b.length:Int))&&(!!fok (a.getD i.toNat 0)&&(decide (i.toNat<b.length)&&(!!fok (a.getD i.toNat 0)&&(!!fok (a.getD i.toNat 0)&&((c.getD i.toNat false)&&((!bif c.getD i.toNat false then bif !fok (a.getD i.toNat 0)then true else !bet (b.getD i.toNat 0) 1 99 else false)&&((!bif c.getD i.toNat false then bif !fok (a.getD i.toNat 0)then true else !bet (b.getD i.toNat 0) 1 99 else false)&&((!bif c.getD i.toNat false then bif !fok (a.getD i.toNat 0)then true else !bet (b.getD i.toNat 0) 1 99 else false)&&((!!c.getD i.toNat false)&&((!!c.getD i.toNat false)&&((!!c.getD i.toNat false)&&((!!c.getD i.toNat false)&&((!!c.getD i.toNat false)&&((!!c.getD i.toNat false)&&((!!c.getD i.toNat false)&&((!!c.getD i.toNat false)&&((!bif c.getD i.toNat false then bif !fok (a.getD i.toNat 0)then true else !bet (b.getD i.toNat 0) 1 99 else false)&&((!!c.getD i.toNat false)&&((!bif bif c.getD i.toNat false then bif !fok (a.getD i.toNat 0)then true else !bet (b.getD i.toNat 0) 1 99 else false then true else false)&&true)))))))))))))))))))))))))))))))))))))))),[],I72 k a b c (IntKind.i64.wrap (i+1))):=by kernel_rfl
theorem a01 (k:Int) (a b:List Int) (c:List Bool) (i:Int):aH 0 (aA f72 0) (aD f72 0) (aK tt (aB T39) ([]) 0 100 (a6 0 (a7 f72)) (I72 k a b c i) [(0,true),(0,false),(1,true),(0,true),(0,true)])=
  some (.ret,(decide (i<(↑c.length:Int))&&(decide (0≤i)&&(decide (i<(↑c.length:Int))&&(decide (i.toNat<c.length)&&((!c.getD i.toNat false)&&((!c.getD i.toNat false)&&((!c.getD i.toNat false)&&((!c.getD i.toNat false)&&((!c.getD i.toNat false)&&((!c.getD i.toNat false)&&((!c.getD i.toNat false)&&((!c.getD i.toNat false)&&((!c.getD i.toNat false)&&((!c.getD i.toNat false)&&((!c.getD i.toNat false)&&((!c.getD i.toNat false)&&((!c.getD i.toNat false)&&((!c.getD i.toNat false)&&(decide (0≤i)&&(decide (i<(↑a.length:Int))&&((!c.getD i.toNat false)&&(decide (i.toNat<a.length)&&((!c.getD i.toNat false)&&((!c.getD i.toNat false)&&((a.getD i.toNat 0 !=0)&&((a.getD i.toNat 0 !=0)&&((a.getD i.toNat 0 !=0)&&((a.getD i.toNat 0 !=0)&&((a.getD i.toNat 0 !=0)&&((a.getD i.toNat 0 !=0)&&((!c.getD i.toNat false)&&((a.getD i.toNat 0 !=0)&&((bif !c.getD i.toNat false then true else false)&&true))))))))))))))))))))))))))))))))),[],Y72 k a b c):=by kernel_rfl
theorem a02 (k:Int) (a b:List Int) (c:List Bool) (i:Int):aH 0 (aA f72 0) (aD f72 0) (aK tt (aB T39) ([]) 0 100 (a6 0 (a7 f72)) (I72 k a b c i) [(0,true),(0,false),(1,true),(0,false),(0,true)])=
  some (.ret,(decide (i<(↑c.length:Int))&&(decide (0≤i)&&(decide (i<(↑c.length:Int))&&(decide (i.toNat<c.length)&&((!c.getD i.toNat false)&&((!c.getD i.toNat false)&&((!c.getD i.toNat false)&&((!c.getD i.toNat false)&&((!c.getD i.toNat false)&&((!c.getD i.toNat false)&&((!c.getD i.toNat false)&&((!c.getD i.toNat false)&&((!c.getD i.toNat false)&&((!c.getD i.toNat false)&&((!c.getD i.toNat false)&&((!c.getD i.toNat false)&&((!c.getD i.toNat false)&&((!c.getD i.toNat false)&&(decide (0≤i)&&(decide (i<(↑a.length:Int))&&((!c.getD i.toNat false)&&(decide (i.toNat<a.length)&&((!c.getD i.toNat false)&&((!c.getD i.toNat false)&&((!a.getD i.toNat 0 !=0)&&((!a.getD i.toNat 0 !=0)&&((!a.getD i.toNat 0 !=0)&&((!a.getD i.toNat 0 !=0)&&(decide (0≤i)&&(decide (i<(↑b.length:Int))&&((!a.getD i.toNat 0 !=0)&&(decide (i.toNat<b.length)&&((!a.getD i.toNat 0 !=0)&&((!c.getD i.toNat false)&&((bif !c.getD i.toNat false then bif a.getD i.toNat 0 !=0 then true else b.getD i.toNat 0 !=0 else false)&&true))))))))))))))))))))))))))))))))))),[],Y72 k a b c):=by kernel_rfl
theorem a03 (k:Int) (a b:List Int) (c:List Bool) (i:Int):aH 0 (aA f72 0) (aD f72 0) (aK tt (aB T39) ([]) 0 100 (a6 0 (a7 f72)) (I72 k a b c i) [(0,true),(0,false),(1,true),(0,false),(0,false)])=
  some (.normal,(decide (i<(↑c.length:Int))&&(decide (0≤i)&&(decide (i<(↑c.length:Int))&&(decide (i.toNat<c.length)&&((!c.getD i.toNat false)&&((!c.getD i.toNat false)&&((!c.getD i.toNat false)&&((!c.getD i.toNat false)&&((!c.getD i.toNat false)&&((!c.getD i.toNat false)&&((!c.getD i.toNat false)&&((!c.getD i.toNat false)&&((!c.getD i.toNat false)&&((!c.getD i.toNat false)&&((!c.getD i.toNat false)&&((!c.getD i.toNat false)&&((!c.getD i.toNat false)&&((!c.getD i.toNat false)&&(decide (0≤i)&&(decide (i<(↑a.length:Int))&&((!c.getD i.toNat false)&&(decide (i.toNat<a.length)&&((!c.getD i.toNat false)&&((!c.getD i.toNat false)&&((!a.getD i.toNat 0 !=0)&&((!a.getD i.toNat 0 !=0)&&((!a.getD i.toNat 0 !=0)&&((!a.getD i.toNat 0 !=0)&&(decide (0≤i)&&(decide (i<(↑b.length:Int))&&((!a.getD i.toNat 0 !=0)&&(decide (i.toNat<b.length)&&((!a.getD i.toNat 0 !=0)&&((!c.getD i.toNat false)&&((!bif !c.getD i.toNat false then bif a.getD i.toNat 0 !=0 then true else b.getD i.toNat 0 !=0 else false)&&true))))))))))))))))))))))))))))))))))),[],I72 k a b c (IntKind.i64.wrap (i+1))):=by kernel_rfl
theorem a04 (k:Int) (a b:List Int) (c:List Bool) (i:Int):aH 0 (aA f72 0) (aD f72 0) (aK tt (aB T39) ([]) 0 100 (a6 0 (a7 f72)) (I72 k a b c i) [(0,false)])=
  some (.exit 0,((!decide (i<(↑c.length:Int)))&&true),[],X72 k a b c):=by kernel_rfl
def oB (a b:List Int) (c:List Bool) (i:Nat):Bool:=bif c.getD i false then fok (a.getD i 0)&&bet (b.getD i 0) 1 99 else !(a.getD i 0 !=0)&& !(b.getD i 0 !=0)
theorem l72 (k:Int) (a b:List Int) (c:List Bool) (ha:a.length=8) (hb:b.length=8) (hc:c.length=8):
  aW Tryz.prog 0 (.block 0 (.loop (a6 0 (a7 f72)))) (I72 k a b c 0) fun e t=>e=(bif cC (oB a b c) 8 0 then .normal else .ret)∧t=bif cC (oB a b c) 8 0 then X72 k a b c else Y72 k a b c:=by
 refine aW.all hT t39 bM 8 (oB a b c) (fun i=>I72 k a b c i) (X72 k a b c) (Y72 k a b c) .ret (.inr rfl) (aA f72 0) (aD f72 0) (fun _=>[]) (fun _ _=>aF.nil) (fun i hi h=> ?_) (fun i hi h=> ?_)
  ⟨_,_,⟨_,_,a04 k a b c (8:Nat),by rw[hc];rfl,by simp⟩⟩
 ·unfold oB at h
  cases h1:c.getD i false with
  |true=>
   rw[h1,cond_true,Bool.and_eq_true]at h
   obtain⟨h2,h3⟩:=h
   have e:=a00 k a b c i
   rw[aE (by omega) (by omega),Int.toNat_natCast]at e
   refine⟨_,_,⟨_,_,e, ?_,by simp⟩⟩
   simp only[h1,h2,h3,Bool.not_true,Bool.not_false,cond_true,cond_false,Bool.true_and,Bool.and_true,Bool.and_eq_true,decide_eq_true_eq,true_and,and_true]
   omega
  |false=>
   rw[h1,cond_false,Bool.and_eq_true,Bool.not_eq_true',Bool.not_eq_true']at h
   obtain⟨h2,h3⟩:=h
   have e:=a03 k a b c i
   rw[aE (by omega) (by omega),Int.toNat_natCast]at e
   refine⟨_,_,⟨_,_,e, ?_,by simp⟩⟩
   simp only[h1,h2,h3,Bool.not_true,Bool.not_false,cond_true,cond_false,Bool.true_and,Bool.and_true,Bool.and_eq_true,decide_eq_true_eq,true_and,and_true]
   omega
 ·unfold oB at h
  rw[if_neg (by intro h;cases h)]
  cases h1:c.getD i false with
  |true=>
   rw[h1,cond_true]at h
   cases h2:fok (a.getD i 0)with
   |false=>
    have e:=ZY k a b c i
    rw[Int.toNat_natCast]at e
    refine⟨_,_,⟨_,_,e, ?_,by simp⟩⟩
    simp only[h1,h2,Bool.not_true,Bool.not_false,cond_true,cond_false,Bool.true_and,Bool.and_true,Bool.and_eq_true,decide_eq_true_eq,true_and,and_true]
    omega
   |true=>
    rw[h2,Bool.true_and]at h
    have e:=ZZ k a b c i
    rw[Int.toNat_natCast]at e
    refine⟨_,_,⟨_,_,e, ?_,by simp⟩⟩
    simp only[h1,h2,h,Bool.not_true,Bool.not_false,cond_true,cond_false,Bool.true_and,Bool.and_true,Bool.and_eq_true,decide_eq_true_eq,true_and,and_true]
    omega
  |false=>
   rw[h1,cond_false]at h
   cases h2:a.getD i 0 !=0 with
   |true=>
    have e:=a01 k a b c i
    rw[Int.toNat_natCast]at e
    refine⟨_,_,⟨_,_,e, ?_,by simp⟩⟩
    simp only[h1,h2,Bool.not_true,Bool.not_false,cond_true,cond_false,Bool.true_and,Bool.and_true,Bool.and_eq_true,decide_eq_true_eq,true_and,and_true]
    omega
   |false=>
    rw[h2,Bool.not_false,Bool.true_and,Bool.not_eq_false']at h
    have e:=a02 k a b c i
    rw[Int.toNat_natCast]at e
    refine⟨_,_,⟨_,_,e, ?_,by simp⟩⟩
    simp only[h1,h2,h,Bool.not_true,Bool.not_false,cond_true,cond_false,Bool.true_and,Bool.and_true,Bool.and_eq_true,decide_eq_true_eq,true_and,and_true]
    omega
theorem AI {a b:List Int} {c:List Bool} (ha:a.length=8) (h:cC (oB a b c) 8 0=true):a9 a=true:=by
 have key: ∀i,i<8→fok (a.getD i 0)=true:=fun i hi=>by
  have:=bY.1 h i (by omega) (by omega)
  unfold oB at this
  cases h1:c.getD i false with
  |true=>rw[h1,cond_true,Bool.and_eq_true]at this;exact this.1
  |false=>
   rw[h1,cond_false,Bool.and_eq_true,Bool.not_eq_true']at this
   have h2:a.getD i 0=0:=by simpa using this.1
   rw[h2];rfl
 simp only[a9,List.all_eq_true]
 intro x hx
 obtain⟨i,hi⟩:=List.getElem?_of_mem hx
 have hlt:=(List.getElem?_eq_some_iff.1 hi).1
 have:=key i (by omega)
 rw[List.getD_eq_getElem?_getD,hi]at this
 simpa using this
theorem W2 (k:Int) (a b:List Int) (c:List Bool):aG tt (aB T39) ([(0,⟨aA f72 0,I72 k a b c 0,.normal,X72 k a b c⟩)]) 100 f72 [.agg [.int .i64 k,.view none (.ints .i64 a) a.length 1 none,.view none (.ints .i64 b) b.length 1 none,.view none (.bools c) c.length 1 none]] [] [(0,false),(0,false)]=
  some ⟨.c (.bool !!(bJ b c).all fun x=>cJ k a (ofL b c x)),[],(!!bet k 1 2&&(!!bet k 1 2&&(!!bet k 1 2&&((!bif !bet k 1 2 then true else !d8 a b c)&&(decide (c.length≤8)&&(decide (b.length=c.length)&&(decide ((bJ b c).length≤274877906944)&&(decide ((bJ b c).length=(bJ b c).length)&&(decide (c.length=8)&&(decide (b.length=8)&&(bet k 1 2&&(decide (a.length=8)&&((a9 a)&&true))))))))))))),[I72 k a b c 0=I72 k a b c 0]⟩:=by kernel_rfl
theorem W3 (k:Int) (a b:List Int) (c:List Bool):aG tt (aB T39) ([(0,⟨aA f72 0,I72 k a b c 0,.ret,Y72 k a b c⟩)]) 100 f72 [.agg [.int .i64 k,.view none (.ints .i64 a) a.length 1 none,.view none (.ints .i64 b) b.length 1 none,.view none (.bools c) c.length 1 none]] [] [(0,false),(0,false)]=
  some ⟨.c (.bool false),[],(!!bet k 1 2&&(!!bet k 1 2&&(!!bet k 1 2&&((!bif !bet k 1 2 then true else !d8 a b c)&&true)))),[I72 k a b c 0=I72 k a b c 0]⟩:=by kernel_rfl
theorem W4 (k:Int) (a b:List Int) (c:List Bool):aG tt (aB T39) ([]) 100 f72 [.agg [.int .i64 k,.view none (.ints .i64 a) a.length 1 none,.view none (.ints .i64 b) b.length 1 none,.view none (.bools c) c.length 1 none]] [] [(0,true)]=
  some ⟨.c (.bool false),[],(!bet k 1 2&&(!bet k 1 2&&(!bet k 1 2&&((!bet k 1 2)&&true)))),[]⟩:=by kernel_rfl
theorem W5 (k:Int) (a b:List Int) (c:List Bool):aG tt (aB T39) ([]) 100 f72 [.agg [.int .i64 k,.view none (.ints .i64 a) a.length 1 none,.view none (.ints .i64 b) b.length 1 none,.view none (.bools c) c.length 1 none]] [] [(0,false),(0,true)]=
  some ⟨.c (.bool false),[],(!!bet k 1 2&&(!!bet k 1 2&&(!!bet k 1 2&&((bif !bet k 1 2 then true else !d8 a b c)&&true)))),[]⟩:=by kernel_rfl
theorem vG (v:List Int): ∀n,(eZ v n).length≤n
 |0=>by simp[eZ]
 |n+1=>by
  have:=vG v n
  simp only[eZ]
  cases Nat.beq n 0||v.getD n 0 !=v.getD (n-1) 0
  ·rw[cond_false];omega
  ·rw[cond_true,List.length_append,List.length_singleton];omega
theorem wI (b:List Int) (c:List Bool):(bJ b c).length≤c.length:=by
 have h:=vG (jL (cW (cO b (flg c)))) (jL (cW (cO b (flg c)))).length
 rw[tR,pR,pV]at h
 have:=nG c
 unfold bJ jT
 rw[tR,pR,pV]
 omega
def bQ (k:Int) (a b:List Int) (c:List Bool):Bool:=bet k 1 2&&(d8 a b c&&(cC (oB a b c) 8 0&&(bJ b c).all fun x=>cJ k a (ofL b c x)))
theorem fQ {a b:List Int} {c:List Bool}:d8 a b c=true↔a.length=8∧b.length=8∧c.length=8:=by
 simp only[d8,Bool.and_eq_true,beq_iff_eq];omega
def GS:aQ:=fun args h=>
 match args,h with
 |[.agg [.int .i64 k,.view _ (.ints .i64 a) n1 1 _,.view _ (.ints .i64 b) n2 1 _,.view _ (.bools c) n3 1 _]],[]=>
  some (.c (.bool (bQ k a b c)),[],[])
 |_,_=>none
theorem m72:aV Tryz.prog 83 GS:=by
 intro args h res h' o hnorm he ho
 unfold GS at he
 split at he
 case h_2=>cases he
 rename_i k nl1 a n1 cap1 nl2 b n2 cap2 nl3 c n3 cap3
 simp only[Option.some.injEq,Prod.mk.injEq]at he
 obtain⟨rfl,rfl,rfl⟩:=he
 simp only[bG,AV.norm,bI,aJ.norm,Con.size,List.cons.injEq,AV.c.injEq,AV.agg.injEq,aJ.view.injEq,aN,true_and,and_true]at hnorm
 obtain⟨⟨rfl,rfl,rfl⟩,⟨rfl,rfl,rfl⟩,rfl,rfl,rfl⟩:=hnorm
 unfold bQ
 cases h1:bet k 1 2 with
 |false=>exact a5 t39 (by kernel_rfl) (by kernel_rfl) (W4 k a b c) (by rw[h1];rfl) (by simp) (fun c _=>aF.nil)
 |true=>
  cases h2:d8 a b c with
  |false=>exact a5 t39 (by kernel_rfl) (by kernel_rfl) (W5 k a b c) (by rw[h1,h2];rfl) (by simp) (fun c _=>aF.nil)
  |true=>
   obtain⟨ha,hb,hc⟩:=fQ.1 h2
   have g:=l72 k a b c ha hb hc
   have hv:=wI b c
   cases h3:cC (oB a b c) 8 0 with
   |false=>
    rw[h3]at g
    exact a5 t39 (fn:=f72) (by kernel_rfl) (by kernel_rfl) (W3 k a b c) (by rw[h1,h2];rfl) (by simp) (fun cc hcc=>aF.cons (c:=cc) (by cases hcc;kernel_rfl) (by cases hcc;exact g) aF.nil)
   |true=>
    rw[h3]at g
    have e:=W2 k a b c
    rw[Bool.not_not]at e
    exact a5 t39 (fn:=f72) (by kernel_rfl) (by kernel_rfl) e (by
     rw[h1,h2,AI ha h3]
     simp only[Bool.not_true,Bool.not_false,cond_false,Bool.true_and,Bool.and_true,Bool.and_eq_true,decide_eq_true_eq,true_and,and_true]
     omega) (by simp) (fun cc hcc=>aF.cons (c:=cc) (by cases hcc;kernel_rfl) (by cases hcc;exact g) aF.nil)
noncomputable def T40:List bF:=[⟨83,[],nm GS⟩]++T39
theorem e40:a8 Tryz.prog T40:=by
 refine a8.append ?_ e39
 intro e he
 simp only[List.mem_cons,List.not_mem_nil,or_false]at he
 subst he;exact m72.ok
noncomputable abbrev f65:=Tryz.f51
end
section
def rdB (k:Int) (w v:List Int):Bool:=bO k v&&cJ k w v
def j7 (k:Int) (w v:List Int):List Int:=[(dS k w v).getD 0 0,(dS k w v).getD 1 0,(dS k w v).getD 2 0,(dS k w v).getD 3 0]
def rdX (k:Int) (w v:List Int):List Int:=bif rdB k w v then j7 k w v else []
def BP:aQ:=fun args h=>
 match args,h with
 |[.c (.int .i64 k),.c (.view _ (.ints .i64 w) n 1 _),.c (.view _ (.ints .i64 v) n2 1 _)],[]=>
  some (.tup [.c (.sl 0 0 (rdX k w v).length 1 none),.c (.bool (rdB k w v))],[.live (.ints .i64 (rdX k w v))],[decide (v.length≤8),bet k 1 2,aM v,decide (w.length=8),a9 w,dU k w v])
 |_,_=>none
theorem XU:aV Tryz.prog 111 BP:=by
 intro args h res h' o hnorm he ho
 unfold BP at he
 split at he
 case h_2=>cases he
 rename_i k nl w n cap nl2 v n2 cap2
 simp only[Option.some.injEq,Prod.mk.injEq]at he
 obtain⟨rfl,rfl,rfl⟩:=he
 simp only[List.mem_cons,List.not_mem_nil,or_false,forall_eq_or_imp,forall_eq,decide_eq_true_eq]at ho
 obtain⟨o1,o2,o3,o4,o5,o6⟩:=ho
 simp only[bG,AV.norm,bI,aJ.norm,Con.size,List.cons.injEq,AV.c.injEq,AV.agg.injEq,aJ.view.injEq,aN,true_and,and_true]at hnorm
 obtain⟨⟨rfl,rfl,rfl⟩,rfl,rfl,rfl⟩:=hnorm
 unfold rdX
 cases hr:rdB k w v with
 |true=>
  have hr':=hr
  simp only[rdB,Bool.and_eq_true]at hr'
  exact a6D _ _ _ _ _ (by simp only[bG,AV.norm,aJ.norm,Con.size,aN]) rfl (by simp[o1,o2,o3,o4,o5,o6,hr'.1,hr'.2])
 |false=>
  exact bE.nilTup (h':=[]) (c0:=.ints .i64 []) (XT _ _ (.tup [.c .nils,.c (.bool false)]) [] _ (by simp only[bG,AV.norm,aJ.norm,Con.size,aN]) rfl (by simp only[rdB]at hr;simp[o1,o2,o3,o4,o5,o6,hr])) rfl
noncomputable def T41:List bF:=[⟨111,[],nm BP⟩]++T40
theorem e41:a8 Tryz.prog T41:=by
 refine a8.append ?_ e40
 intro e he
 simp only[List.mem_cons,List.not_mem_nil,or_false]at he
 subst he;exact XU.ok
theorem t41:bN Tryz.prog (aB T41):=aP e41
noncomputable def I65 (k:Int) (a b:List Int) (c:List Bool) (v:List Int) (i:Int):St:=
 bA f65.ntmps [(1,.c (.ptr 0 0 0 0)),(10,.c (.sl 1 0 v.length 1 none)),(11,.c (.int .i64 v.length)),(12,.c (.int .i64 i))] [.live (.cells [.int .i64 k,.view none (.ints .i64 a) a.length 1 none,.view none (.ints .i64 b) b.length 1 none,.view none (.bools c) c.length 1 none]),.live (.ints .i64 v)]
noncomputable def Y65 (k:Int) (a b:List Int) (c:List Bool) (x:Int):St:=
 bA f65.ntmps [(2,.c (.sl 0 0 (rdX k a (ofL b c x)).length 1 none)),(3,.c (.int .i64 x)),(4,.c (.bool true))] [.live (.ints .i64 (rdX k a (ofL b c x)))]
noncomputable def X65:St:=bA f65.ntmps [] []
theorem ZQ (k:Int) (a b:List Int) (c:List Bool) (v:List Int) (i:Int):aH 0 (aA f65 0) (aD f65 0) (aK tt (aB T41) ([]) 0 100 (a6 0 (a7 f65)) (I65 k a b c v i) [(0,true),(0,true)])=
  some (.ret,(decide (i<(↑v.length:Int))&&(decide (0≤i)&&(decide (i<(↑v.length:Int))&&(decide (i.toNat<v.length)&&(decide (c.length≤274877906944)&&(decide (b.length=c.length)&&(decide ((ofL b c (v.getD i.toNat 0)).length=(ofL b c (v.getD i.toNat 0)).length)&&(decide ((ofL b c (v.getD i.toNat 0)).length≤8)&&(bet k 1 2&&(aM (ofL b c (v.getD i.toNat 0))&&(decide (a.length=8)&&(a9 a&&(dU k a (ofL b c (v.getD i.toNat 0))&&((rdB k a (ofL b c (v.getD i.toNat 0)))&&true)))))))))))))),[],Y65 k a b c (v.getD i.toNat 0)):=by kernel_rfl
theorem ZR (k:Int) (a b:List Int) (c:List Bool) (v:List Int) (i:Int):aH 0 (aA f65 0) (aD f65 0) (aK tt (aB T41) ([]) 0 100 (a6 0 (a7 f65)) (I65 k a b c v i) [(0,true),(0,false)])=
  some (.normal,(decide (i<(↑v.length:Int))&&(decide (0≤i)&&(decide (i<(↑v.length:Int))&&(decide (i.toNat<v.length)&&(decide (c.length≤274877906944)&&(decide (b.length=c.length)&&(decide ((ofL b c (v.getD i.toNat 0)).length=(ofL b c (v.getD i.toNat 0)).length)&&(decide ((ofL b c (v.getD i.toNat 0)).length≤8)&&(bet k 1 2&&(aM (ofL b c (v.getD i.toNat 0))&&(decide (a.length=8)&&(a9 a&&(dU k a (ofL b c (v.getD i.toNat 0))&&((!rdB k a (ofL b c (v.getD i.toNat 0)))&&true)))))))))))))),[],I65 k a b c v (IntKind.i64.wrap (i+1))):=by kernel_rfl
theorem ZS (k:Int) (a b:List Int) (c:List Bool) (v:List Int) (i:Int):aH 0 (aA f65 0) (aD f65 0) (aK tt (aB T41) ([]) 0 100 (a6 0 (a7 f65)) (I65 k a b c v i) [(0,false)])=
  some (.exit 0,((!decide (i<(↑v.length:Int)))&&true),[],X65):=by kernel_rfl
theorem wB (q:Int→Bool) (v:List Int): ∀(n i:Nat),i+n=v.length→dO (fun i (_:Unit)=>bif q (v.getD i 0)then .inr (v.getD i 0)else .inl ()) n i ()=match(v.drop i).find? q with|some x=> .inr x|none=> .inl ()
 |0,i,h=>by rw[List.drop_eq_nil_of_le (by omega)];rfl
 |n+1,i,h=>by
  have hi:i<v.length:=by omega
  rw[List.drop_eq_getElem_cons hi]
  have hg:v.getD i 0=v[i]:=by rw[List.getD_eq_getElem?_getD,List.getElem?_eq_getElem hi];rfl
  simp only[dO,List.find?_cons]
  rw[hg]
  cases hq:q v[i]with
  |true=>rfl
  |false=>simp only[cond_false];exact wB q v n (i+1) (by omega)
def rdV (k:Int) (a b:List Int) (c:List Bool):Option Int:=(bJ b c).find? fun x=>rdB k a (ofL b c x)
def okE:Option Int→Ex
 |some _=> .ret
 |none=> .normal
noncomputable def okS (k:Int) (a b:List Int) (c:List Bool):Option Int→St
 |some x=>Y65 k a b c x
 |none=>X65
theorem l65 (k:Int) (a b:List Int) (c:List Bool) (hk:bet k 1 2=true) (ha:a.length=8) (haf:a9 a=true) (hb:b.length=8) (hc:c.length=8):
  aW Tryz.prog 0 (.block 0 (.loop (a6 0 (a7 f65)))) (I65 k a b c (bJ b c) 0) fun e t=>e=okE (rdV k a b c)∧t=okS k a b c (rdV k a b c):=by
 have hv:=wI b c
 have key:=aW.countE hT t41 bM (m:=0) (id:=0) (body:=a6 0 (a7 f65)) (bJ b c).length (fun _ _=>True) (fun i _=>I65 k a b c (bJ b c) i) (fun _=>X65) (fun x=>Y65 k a b c x) .ret (.inr rfl)
  (fun i (_:Unit)=>bif rdB k a (ofL b c ((bJ b c).getD i 0))then .inr ((bJ b c).getD i 0)else .inl ()) (aA f65 0) (aD f65 0) (fun _ _=>[]) (fun _ _ _ _=>aF.nil) (fun i _ hi _=> ?_)
  (fun _ _=>⟨_,_,⟨_,_,ZS k a b c (bJ b c) (bJ b c).length,by simp,by simp⟩⟩) () trivial
 ·refine aW.mono key fun e t h=> ?_
  rw[wB (fun x=>rdB k a (ofL b c x)) (bJ b c) _ 0 (by omega)]at h
  revert h
  show _→e=okE ((bJ b c).find? fun x=>rdB k a (ofL b c x))∧t=okS k a b c ((bJ b c).find? fun x=>rdB k a (ofL b c x))
  rw[List.drop_zero]
  cases (bJ b c).find? fun x=>rdB k a (ofL b c x)<;>exact fun h=>h
 ·have hs:=iY (b:=b) (vs:=(bJ b c).getD i 0) hc
  have ho:=AL (w:=a) (b:=b) (c:=c) (vs:=(bJ b c).getD i 0) hk hc
  cases hq:rdB k a (ofL b c ((bJ b c).getD i 0))with
  |true=>
   refine .inr ⟨_,rfl, ?_⟩
   have e:=ZQ k a b c (bJ b c) i
   rw[Int.toNat_natCast]at e
   rw[if_neg (by intro h;cases h)]
   refine⟨_,_,⟨_,_,e, ?_,by simp⟩⟩
   simp only[hq,hk,hs.1,haf,ho,Bool.true_and,Bool.and_true,Bool.and_eq_true,decide_eq_true_eq,true_and,and_true]
   omega
  |false=>
   refine .inl ⟨(),rfl,trivial, ?_⟩
   have e:=ZR k a b c (bJ b c) i
   rw[aE (by omega) (by omega),Int.toNat_natCast]at e
   refine⟨_,_,⟨_,_,e, ?_,by simp⟩⟩
   simp only[hq,hk,hs.1,haf,ho,Bool.not_false,Bool.true_and,Bool.and_true,Bool.and_eq_true,decide_eq_true_eq,true_and,and_true]
   omega
theorem W0 (k:Int) (a b:List Int) (c:List Bool) (x:Int):aG tt (aB T41) ([(0,⟨aA f65 0,I65 k a b c (bJ b c) 0,.ret,Y65 k a b c x⟩)]) 100 f65 [.agg [.int .i64 k,.view none (.ints .i64 a) a.length 1 none,.view none (.ints .i64 b) b.length 1 none,.view none (.bools c) c.length 1 none]] [] []=
  some ⟨.tup [.c (.sl 0 0 (rdX k a (ofL b c x)).length 1 none),.c (.int .i64 x),.c (.bool true)],[.live (.ints .i64 (rdX k a (ofL b c x)))],(decide (c.length≤8)&&((decide (b.length=c.length))&&true)),[I65 k a b c (bJ b c) 0=I65 k a b c (bJ b c) 0]⟩:=by kernel_rfl
theorem W1 (k:Int) (a b:List Int) (c:List Bool):aG tt (aB T41) ([(0,⟨aA f65 0,I65 k a b c (bJ b c) 0,.normal,X65⟩)]) 100 f65 [.agg [.int .i64 k,.view none (.ints .i64 a) a.length 1 none,.view none (.ints .i64 b) b.length 1 none,.view none (.bools c) c.length 1 none]] [] []=
  some ⟨.tup [.c .nils,.c (.int .i64 0),.c (.bool false)],[],(decide (c.length≤8)&&((decide (b.length=c.length))&&true)),[I65 k a b c (bJ b c) 0=I65 k a b c (bJ b c) 0]⟩:=by kernel_rfl
def rdD (k:Int) (a b:List Int) (c:List Bool):List Int:=match rdV k a b c with|some x=>rdX k a (ofL b c x)|none=>[]
def rdN (k:Int) (a b:List Int) (c:List Bool):Int:=match rdV k a b c with|some x=>x|none=>0
def rdS (k:Int) (a b:List Int) (c:List Bool):Bool:=match rdV k a b c with|some _=>true|none=>false
def wZ:aQ:=fun args h=>
 match args,h with
 |[.agg [.int .i64 k,.view _ (.ints .i64 a) n1 1 _,.view _ (.ints .i64 b) n2 1 _,.view _ (.bools c) n3 1 _]],[]=>
  some (.tup [.c (.sl 0 0 (rdD k a b c).length 1 none),.c (.int .i64 (rdN k a b c)),.c (.bool (rdS k a b c))],[.live (.ints .i64 (rdD k a b c))],[decide (c.length=8),decide (b.length=8),decide (a.length=8),bet k 1 2,a9 a])
 |_,_=>none
theorem m65:aV Tryz.prog 51 wZ:=by
 intro args h res h' o hnorm he ho
 unfold wZ at he
 split at he
 case h_2=>cases he
 rename_i k nl1 a n1 cap1 nl2 b n2 cap2 nl3 c n3 cap3
 simp only[Option.some.injEq,Prod.mk.injEq]at he
 obtain⟨rfl,rfl,rfl⟩:=he
 simp only[List.mem_cons,List.not_mem_nil,or_false,forall_eq_or_imp,forall_eq,decide_eq_true_eq]at ho
 obtain⟨o1,o2,o3,o4,o5⟩:=ho
 simp only[bG,AV.norm,bI,aJ.norm,Con.size,List.cons.injEq,AV.c.injEq,AV.agg.injEq,aJ.view.injEq,aN,true_and,and_true]at hnorm
 obtain⟨⟨rfl,rfl,rfl⟩,⟨rfl,rfl,rfl⟩,rfl,rfl,rfl⟩:=hnorm
 have g:=l65 k a b c o4 o3 o5 o2 o1
 unfold rdD rdN rdS
 cases hr:rdV k a b c with
 |some x=>
  rw[hr]at g
  exact a5 t41 (fn:=f65) (by kernel_rfl) (by kernel_rfl) (W0 k a b c x) (by simp[o1,o2]) (by simp) (fun cc hcc=>aF.cons (c:=cc) (by cases hcc;kernel_rfl) (by cases hcc;exact g) aF.nil)
 |none=>
  rw[hr]at g
  exact bE.nilTup (h':=[]) (c0:=.ints .i64 []) (a5 t41 (fn:=f65) (by kernel_rfl) (by kernel_rfl) (W1 k a b c) (by simp[o1,o2]) (by simp) (fun cc hcc=>aF.cons (c:=cc) (by cases hcc;kernel_rfl) (by cases hcc;exact g) aF.nil)) rfl
noncomputable def T42:List bF:=[⟨51,[],nm wZ⟩]++T41
theorem e42:a8 Tryz.prog T42:=by
 refine a8.append ?_ e41
 intro e he
 simp only[List.mem_cons,List.not_mem_nil,or_false]at he
 subst he;exact m65.ok
theorem t42:bN Tryz.prog (aB T42):=aP e42
theorem a23 (k:Int) (a b:List Int) (c:List Bool):aG tt (aB T42) ([]) 100 Tryz.f38 [.agg [.int .i64 k,.view none (.ints .i64 a) a.length 1 none,.view none (.ints .i64 b) b.length 1 none,.view none (.bools c) c.length 1 none]] [] [(0,true)]=
  some ⟨.tup [.c .nils,.c (.int .i64 0),.c (.bool false)],[],((!bQ k a b c)&&true),[]⟩:=by kernel_rfl
theorem a24 (k:Int) (a b:List Int) (c:List Bool):aG tt (aB T42) ([]) 100 Tryz.f38 [.agg [.int .i64 k,.view none (.ints .i64 a) a.length 1 none,.view none (.ints .i64 b) b.length 1 none,.view none (.bools c) c.length 1 none]] [] [(0,false)]=
  some ⟨.tup [.c (.sl 0 0 (rdD k a b c).length 1 none),.c (.int .i64 (rdN k a b c)),.c (.bool (rdS k a b c))],[.live (.ints .i64 (rdD k a b c))],(!!bQ k a b c&&(decide (c.length=8)&&(decide (b.length=8)&&(decide (a.length=8)&&(bet k 1 2&&((a9 a)&&true)))))),[]⟩:=by kernel_rfl
theorem a2D (k:Int) (a b:List Int) (c:List Bool):aG tt (aB T42) ([]) 100 Tryz.f42 [.agg [.int .i64 k,.view none (.ints .i64 a) a.length 1 none,.view none (.ints .i64 b) b.length 1 none,.view none (.bools c) c.length 1 none]] [] [(0,true)]=
  some ⟨.c (.int .i64 (-1)),[],((!bQ k a b c)&&true),[]⟩:=by kernel_rfl
theorem a2E (k:Int) (a b:List Int) (c:List Bool):aG tt (aB T42) ([]) 100 Tryz.f42 [.agg [.int .i64 k,.view none (.ints .i64 a) a.length 1 none,.view none (.ints .i64 b) b.length 1 none,.view none (.bools c) c.length 1 none]] [] [(0,false)]=
  some ⟨.c (.int .i64 (gE b c)),[],(!!bQ k a b c&&(decide (c.length≤8)&&((decide (b.length=c.length))&&true))),[]⟩:=by kernel_rfl
end
section
theorem eX {k:Int} {a b:List Int} {c:List Bool} (h:bQ k a b c=true):bet k 1 2=true∧a.length=8∧b.length=8∧c.length=8∧a9 a=true:=by
 simp only[bQ,Bool.and_eq_true]at h
 obtain⟨h1,h2,h3,h4⟩:=h
 obtain⟨ha,hb,hc⟩:=fQ.1 h2
 exact⟨h1,ha,hb,hc,AI ha h3⟩
def srD (k:Int) (a b:List Int) (c:List Bool):List Int:=bif bQ k a b c then rdD k a b c else []
def srN (k:Int) (a b:List Int) (c:List Bool):Int:=bif bQ k a b c then rdN k a b c else 0
def srS (k:Int) (a b:List Int) (c:List Bool):Bool:=bif bQ k a b c then rdS k a b c else false
def xA:aQ:=fun args h=>
 match args,h with
 |[.agg [.int .i64 k,.view _ (.ints .i64 a) n1 1 _,.view _ (.ints .i64 b) n2 1 _,.view _ (.bools c) n3 1 _]],[]=>
  some (.tup [.c (.sl 0 0 (srD k a b c).length 1 none),.c (.int .i64 (srN k a b c)),.c (.bool (srS k a b c))],[.live (.ints .i64 (srD k a b c))],[])
 |_,_=>none
theorem m40:aV Tryz.prog 38 xA:=by
 intro args h res h' o hnorm he ho
 unfold xA at he
 split at he
 case h_2=>cases he
 rename_i k nl1 a n1 cap1 nl2 b n2 cap2 nl3 c n3 cap3
 simp only[Option.some.injEq,Prod.mk.injEq]at he
 obtain⟨rfl,rfl,rfl⟩:=he
 simp only[bG,AV.norm,bI,aJ.norm,Con.size,List.cons.injEq,AV.c.injEq,AV.agg.injEq,aJ.view.injEq,aN,true_and,and_true]at hnorm
 obtain⟨⟨rfl,rfl,rfl⟩,⟨rfl,rfl,rfl⟩,rfl,rfl,rfl⟩:=hnorm
 unfold srD srN srS
 cases hr:bQ k a b c with
 |true=>
  obtain⟨o1,o2,o3,o4,o5⟩:=eX hr
  exact a5 t42 (by kernel_rfl) (by kernel_rfl) (a24 k a b c) (by simp[hr,o1,o2,o3,o4,o5]) (by simp) (fun cc _=>aF.nil)
 |false=>
  exact bE.nilTup (h':=[]) (c0:=.ints .i64 []) (a5 t42 (by kernel_rfl) (by kernel_rfl) (a23 k a b c) (by simp[hr]) (by simp) (fun cc _=>aF.nil)) rfl
def P9 (k:Int) (a b:List Int) (c:List Bool):Int:=bif bQ k a b c then gE b c else -1
def BX:aQ:=fun args h=>
 match args,h with
 |[.agg [.int .i64 k,.view _ (.ints .i64 a) n1 1 _,.view _ (.ints .i64 b) n2 1 _,.view _ (.bools c) n3 1 _]],[]=>
  some (.c (.int .i64 (P9 k a b c)),[],[])
 |_,_=>none
theorem m44:aV Tryz.prog 42 BX:=by
 intro args h res h' o hnorm he ho
 unfold BX at he
 split at he
 case h_2=>cases he
 rename_i k nl1 a n1 cap1 nl2 b n2 cap2 nl3 c n3 cap3
 simp only[Option.some.injEq,Prod.mk.injEq]at he
 obtain⟨rfl,rfl,rfl⟩:=he
 simp only[bG,AV.norm,bI,aJ.norm,Con.size,List.cons.injEq,AV.c.injEq,AV.agg.injEq,aJ.view.injEq,aN,true_and,and_true]at hnorm
 obtain⟨⟨rfl,rfl,rfl⟩,⟨rfl,rfl,rfl⟩,rfl,rfl,rfl⟩:=hnorm
 unfold P9
 cases hr:bQ k a b c with
 |true=>
  obtain⟨o1,o2,o3,o4,o5⟩:=eX hr
  exact a5 t42 (by kernel_rfl) (by kernel_rfl) (a2E k a b c) (by simp[hr,o1,o2,o3,o4,o5]) (by simp) (fun cc _=>aF.nil)
 |false=>exact a5 t42 (by kernel_rfl) (by kernel_rfl) (a2D k a b c) (by simp[hr]) (by simp) (fun cc _=>aF.nil)
noncomputable def T43:List bF:=[⟨38,[],nm xA⟩,⟨42,[],nm BX⟩]++T42
theorem e43:a8 Tryz.prog T43:=by
 refine a8.append ?_ e42
 intro e he
 simp only[List.mem_cons,List.not_mem_nil,or_false]at he
 rcases he with rfl|rfl
 ·exact m40.ok
 ·exact m44.ok
theorem t43:bN Tryz.prog (aB T43):=aP e43
noncomputable abbrev f22:=Tryz.f25
def hZ (kd:Int) (d:List Int):List Int:=fJ kd [ifI (aC d 4) (d.getD 0 0),ifI (aC d 4) (d.getD 1 0),ifI (aC d 4) (d.getD 2 0),ifI (aC d 4) (d.getD 3 0)]
noncomputable def I22 (k:Int) (a b:List Int) (c:List Bool) (on:Bool) (kd:Int) (d:List Int) (vs:Int) (ev:List Int) (i:Int):St:=
 bA f22.ntmps [(1,.c (.ptr 0 0 0 0)),(9,.c (.sl 1 0 8 1 none)),(96,.c (.view none (.ints .i64 b) b.length 1 none)),(97,.c (.int .i64 b.length)),(98,.c (.int .i64 i))] [.live (.cells [.int .i64 k,.view none (.ints .i64 a) a.length 1 none,.view none (.ints .i64 b) b.length 1 none,.view none (.bools c) c.length 1 none,.bool on,.int .i64 kd,.view none (.ints .i64 d) d.length 1 none,.int .i64 vs]),.live (.ints .i64 ev)]
noncomputable def X22:St:=bA f22.ntmps [] []
noncomputable def Y22:St:=bA f22.ntmps [(2,.c (.bool false))] []
theorem YN (k:Int) (a b:List Int) (c:List Bool) (on:Bool) (kd:Int) (d:List Int) (vs:Int) (ev:List Int) (i:Int):aH 0 (aA f22 0) (aD f22 0) (aK tt (aB T43) ([]) 0 100 (a6 0 (a7 f22)) (I22 k a b c on kd d vs ev i) [(0,true),(0,true),(0,true),(0,true)])=
  some (.ret,(decide (i<(↑b.length:Int))&&(decide (0≤i)&&(decide (i<(↑b.length:Int))&&(decide (i.toNat<b.length)&&((b.getD i.toNat 0==vs)&&((b.getD i.toNat 0==vs)&&((b.getD i.toNat 0==vs)&&((b.getD i.toNat 0==vs)&&((b.getD i.toNat 0==vs)&&(decide (0≤i)&&(decide (i<(↑c.length:Int))&&((b.getD i.toNat 0==vs)&&(decide (i.toNat<c.length)&&((b.getD i.toNat 0==vs)&&((b.getD i.toNat 0==vs)&&((!c.getD i.toNat false)&&((!c.getD i.toNat false)&&((!c.getD i.toNat false)&&((!c.getD i.toNat false)&&((!c.getD i.toNat false)&&((!c.getD i.toNat false)&&((!c.getD i.toNat false)&&((!c.getD i.toNat false)&&((!c.getD i.toNat false)&&((!c.getD i.toNat false)&&((!c.getD i.toNat false)&&((b.getD i.toNat 0==vs)&&((!c.getD i.toNat false)&&((bif b.getD i.toNat 0==vs then true else false)&&true))))))))))))))))))))))))))))),[],Y22):=by kernel_rfl
theorem YP (k:Int) (a b:List Int) (c:List Bool) (on:Bool) (kd:Int) (d:List Int) (vs:Int) (ev:List Int) (i:Int):aH 0 (aA f22 0) (aD f22 0) (aK tt (aB T43) ([]) 0 100 (a6 0 (a7 f22)) (I22 k a b c on kd d vs ev i) [(0,true),(0,true),(0,false),(0,true)])=
  some (.ret,(decide (i<(↑b.length:Int))&&(decide (0≤i)&&(decide (i<(↑b.length:Int))&&(decide (i.toNat<b.length)&&((b.getD i.toNat 0==vs)&&((b.getD i.toNat 0==vs)&&((b.getD i.toNat 0==vs)&&((b.getD i.toNat 0==vs)&&((b.getD i.toNat 0==vs)&&(decide (0≤i)&&(decide (i<(↑c.length:Int))&&((b.getD i.toNat 0==vs)&&(decide (i.toNat<c.length)&&((b.getD i.toNat 0==vs)&&((b.getD i.toNat 0==vs)&&((!!c.getD i.toNat false)&&((!!c.getD i.toNat false)&&((!!c.getD i.toNat false)&&((!!c.getD i.toNat false)&&((!!c.getD i.toNat false)&&(decide (0≤i)&&(decide (i<(↑a.length:Int))&&((!!c.getD i.toNat false)&&(decide (i.toNat<a.length)&&((!!c.getD i.toNat false)&&((!!c.getD i.toNat false)&&((!!c.getD i.toNat false)&&(decide (0≤i)&&(decide (i<8)&&((!!c.getD i.toNat false)&&(decide (i.toNat<ev.length)&&((!!c.getD i.toNat false)&&((b.getD i.toNat 0==vs)&&((bif b.getD i.toNat 0==vs then bif !c.getD i.toNat false then true else a.getD i.toNat 0 !=ev.getD i.toNat 0 else false)&&true)))))))))))))))))))))))))))))))))),[],Y22):=by kernel_rfl
theorem YQ (k:Int) (a b:List Int) (c:List Bool) (on:Bool) (kd:Int) (d:List Int) (vs:Int) (ev:List Int) (i:Int):aH 0 (aA f22 0) (aD f22 0) (aK tt (aB T43) ([]) 0 100 (a6 0 (a7 f22)) (I22 k a b c on kd d vs ev i) [(0,true),(0,true),(0,false),(0,false)])=
  some (.normal,(decide (i<(↑b.length:Int))&&(decide (0≤i)&&(decide (i<(↑b.length:Int))&&(decide (i.toNat<b.length)&&((b.getD i.toNat 0==vs)&&((b.getD i.toNat 0==vs)&&((b.getD i.toNat 0==vs)&&((b.getD i.toNat 0==vs)&&((b.getD i.toNat 0==vs)&&(decide (0≤i)&&(decide (i<(↑c.length:Int))&&((b.getD i.toNat 0==vs)&&(decide (i.toNat<c.length)&&((b.getD i.toNat 0==vs)&&((b.getD i.toNat 0==vs)&&((!!c.getD i.toNat false)&&((!!c.getD i.toNat false)&&((!!c.getD i.toNat false)&&((!!c.getD i.toNat false)&&((!!c.getD i.toNat false)&&(decide (0≤i)&&(decide (i<(↑a.length:Int))&&((!!c.getD i.toNat false)&&(decide (i.toNat<a.length)&&((!!c.getD i.toNat false)&&((!!c.getD i.toNat false)&&((!!c.getD i.toNat false)&&(decide (0≤i)&&(decide (i<8)&&((!!c.getD i.toNat false)&&(decide (i.toNat<ev.length)&&((!!c.getD i.toNat false)&&((b.getD i.toNat 0==vs)&&((!bif b.getD i.toNat 0==vs then bif !c.getD i.toNat false then true else a.getD i.toNat 0 !=ev.getD i.toNat 0 else false)&&true)))))))))))))))))))))))))))))))))),[],I22 k a b c on kd d vs ev (IntKind.i64.wrap (i+1))):=by kernel_rfl
theorem YR (k:Int) (a b:List Int) (c:List Bool) (on:Bool) (kd:Int) (d:List Int) (vs:Int) (ev:List Int) (i:Int):aH 0 (aA f22 0) (aD f22 0) (aK tt (aB T43) ([]) 0 100 (a6 0 (a7 f22)) (I22 k a b c on kd d vs ev i) [(0,true),(0,false)])=
  some (.normal,(decide (i<(↑b.length:Int))&&(decide (0≤i)&&(decide (i<(↑b.length:Int))&&(decide (i.toNat<b.length)&&((!b.getD i.toNat 0==vs)&&((!b.getD i.toNat 0==vs)&&((!b.getD i.toNat 0==vs)&&((!b.getD i.toNat 0==vs)&&((!b.getD i.toNat 0==vs)&&((!b.getD i.toNat 0==vs)&&((!b.getD i.toNat 0==vs)&&((!b.getD i.toNat 0==vs)&&((!b.getD i.toNat 0==vs)&&((!b.getD i.toNat 0==vs)&&true)))))))))))))),[],I22 k a b c on kd d vs ev (IntKind.i64.wrap (i+1))):=by kernel_rfl
theorem YS (k:Int) (a b:List Int) (c:List Bool) (on:Bool) (kd:Int) (d:List Int) (vs:Int) (ev:List Int) (i:Int):aH 0 (aA f22 0) (aD f22 0) (aK tt (aB T43) ([]) 0 100 (a6 0 (a7 f22)) (I22 k a b c on kd d vs ev i) [(0,false)])=
  some (.exit 0,((!decide (i<(↑b.length:Int)))&&true),[],X22):=by kernel_rfl
theorem VG (k:Int) (a b:List Int) (c:List Bool) (on:Bool) (kd:Int) (d:List Int) (vs:Int) (lcv:List (Nat×LC)):aG tt (aB T43) (lcv) 100 f22 [.agg [.int .i64 k,.view none (.ints .i64 a) a.length 1 none,.view none (.ints .i64 b) b.length 1 none,.view none (.bools c) c.length 1 none,.bool on,.int .i64 kd,.view none (.ints .i64 d) d.length 1 none,.int .i64 vs]] [] [(0,true),(0,true),(0,true),(0,true),(0,true)]=
  some ⟨.c (.bool (bif bif bif bif srS k a b c then kd==0 else false then(↑d.length:Int)==0 else false then vs==0 else false then(↑(bJ b c).length:Int)==1 else false)),[],((!on)&&(srS k a b c&&(srS k a b c&&(srS k a b c&&((bif srS k a b c then kd==0 else false)&&((bif srS k a b c then kd==0 else false)&&((bif srS k a b c then kd==0 else false)&&((bif srS k a b c then kd==0 else false)&&((bif bif srS k a b c then kd==0 else false then(↑d.length:Int)==0 else false)&&((bif bif srS k a b c then kd==0 else false then(↑d.length:Int)==0 else false)&&((bif bif srS k a b c then kd==0 else false then(↑d.length:Int)==0 else false)&&((bif bif bif srS k a b c then kd==0 else false then(↑d.length:Int)==0 else false then vs==0 else false)&&((bif bif bif srS k a b c then kd==0 else false then(↑d.length:Int)==0 else false then vs==0 else false)&&((bif bif bif srS k a b c then kd==0 else false then(↑d.length:Int)==0 else false then vs==0 else false)&&(decide (c.length≤8)&&(decide (b.length=c.length)&&((bif bif bif srS k a b c then kd==0 else false then(↑d.length:Int)==0 else false then vs==0 else false)&&((bif bif bif srS k a b c then kd==0 else false then(↑d.length:Int)==0 else false then vs==0 else false)&&true)))))))))))))))))),[]⟩:=by kernel_rfl
theorem VH (k:Int) (a b:List Int) (c:List Bool) (on:Bool) (kd:Int) (d:List Int) (vs:Int) (lcv:List (Nat×LC)):aG tt (aB T43) (lcv) 100 f22 [.agg [.int .i64 k,.view none (.ints .i64 a) a.length 1 none,.view none (.ints .i64 b) b.length 1 none,.view none (.bools c) c.length 1 none,.bool on,.int .i64 kd,.view none (.ints .i64 d) d.length 1 none,.int .i64 vs]] [] [(0,true),(0,true),(0,true),(0,true),(0,false)]=
  some ⟨.c (.bool false),[],((!on)&&(srS k a b c&&(srS k a b c&&(srS k a b c&&((bif srS k a b c then kd==0 else false)&&((bif srS k a b c then kd==0 else false)&&((bif srS k a b c then kd==0 else false)&&((bif srS k a b c then kd==0 else false)&&((bif bif srS k a b c then kd==0 else false then(↑d.length:Int)==0 else false)&&((bif bif srS k a b c then kd==0 else false then(↑d.length:Int)==0 else false)&&((bif bif srS k a b c then kd==0 else false then(↑d.length:Int)==0 else false)&&((!bif bif bif srS k a b c then kd==0 else false then(↑d.length:Int)==0 else false then vs==0 else false)&&((!bif bif bif srS k a b c then kd==0 else false then(↑d.length:Int)==0 else false then vs==0 else false)&&((!bif bif bif srS k a b c then kd==0 else false then(↑d.length:Int)==0 else false then vs==0 else false)&&((!bif bif bif srS k a b c then kd==0 else false then(↑d.length:Int)==0 else false then vs==0 else false)&&((!bif bif bif srS k a b c then kd==0 else false then(↑d.length:Int)==0 else false then vs==0 else false)&&((!bif bif bif srS k a b c then kd==0 else false then(↑d.length:Int)==0 else false then vs==0 else false)&&true))))))))))))))))),[]⟩:=by kernel_rfl
theorem VI (k:Int) (a b:List Int) (c:List Bool) (on:Bool) (kd:Int) (d:List Int) (vs:Int) (lcv:List (Nat×LC)):aG tt (aB T43) (lcv) 100 f22 [.agg [.int .i64 k,.view none (.ints .i64 a) a.length 1 none,.view none (.ints .i64 b) b.length 1 none,.view none (.bools c) c.length 1 none,.bool on,.int .i64 kd,.view none (.ints .i64 d) d.length 1 none,.int .i64 vs]] [] [(0,true),(0,true),(0,true),(0,false)]=
  some ⟨.c (.bool false),[],((!on)&&(srS k a b c&&(srS k a b c&&(srS k a b c&&((bif srS k a b c then kd==0 else false)&&((bif srS k a b c then kd==0 else false)&&((bif srS k a b c then kd==0 else false)&&((bif srS k a b c then kd==0 else false)&&((!bif bif srS k a b c then kd==0 else false then(↑d.length:Int)==0 else false)&&((!bif bif srS k a b c then kd==0 else false then(↑d.length:Int)==0 else false)&&((!bif bif srS k a b c then kd==0 else false then(↑d.length:Int)==0 else false)&&((!bif bif srS k a b c then kd==0 else false then(↑d.length:Int)==0 else false)&&true)))))))))))),[]⟩:=by kernel_rfl
theorem VJ (k:Int) (a b:List Int) (c:List Bool) (on:Bool) (kd:Int) (d:List Int) (vs:Int) (lcv:List (Nat×LC)):aG tt (aB T43) (lcv) 100 f22 [.agg [.int .i64 k,.view none (.ints .i64 a) a.length 1 none,.view none (.ints .i64 b) b.length 1 none,.view none (.bools c) c.length 1 none,.bool on,.int .i64 kd,.view none (.ints .i64 d) d.length 1 none,.int .i64 vs]] [] [(0,true),(0,true),(0,false)]=
  some ⟨.c (.bool false),[],((!on)&&(srS k a b c&&(srS k a b c&&(srS k a b c&&((!bif srS k a b c then kd==0 else false)&&((!bif srS k a b c then kd==0 else false)&&((!bif srS k a b c then kd==0 else false)&&((!bif srS k a b c then kd==0 else false)&&((!bif srS k a b c then kd==0 else false)&&true))))))))),[]⟩:=by kernel_rfl
theorem VK (k:Int) (a b:List Int) (c:List Bool) (on:Bool) (kd:Int) (d:List Int) (vs:Int) (lcv:List (Nat×LC)):aG tt (aB T43) (lcv) 100 f22 [.agg [.int .i64 k,.view none (.ints .i64 a) a.length 1 none,.view none (.ints .i64 b) b.length 1 none,.view none (.bools c) c.length 1 none,.bool on,.int .i64 kd,.view none (.ints .i64 d) d.length 1 none,.int .i64 vs]] [] [(0,true),(0,false)]=
  some ⟨.c (.bool false),[],((!on)&&(!srS k a b c&&(!srS k a b c&&(!srS k a b c&&((!srS k a b c)&&true))))),[]⟩:=by kernel_rfl
theorem VL (k:Int) (a b:List Int) (c:List Bool) (on:Bool) (kd:Int) (d:List Int) (vs:Int) (lcv:List (Nat×LC)):aG tt (aB T43) (lcv) 100 f22 [.agg [.int .i64 k,.view none (.ints .i64 a) a.length 1 none,.view none (.ints .i64 b) b.length 1 none,.view none (.bools c) c.length 1 none,.bool on,.int .i64 kd,.view none (.ints .i64 d) d.length 1 none,.int .i64 vs]] [] [(0,false),(0,true)]=
  some ⟨.c (.bool false),[],((!!on)&&(decide (d.length≤274877906944)&&(!aC d 4&&(!aC d 4&&(!aC d 4&&(!aC d 4&&((!aC d 4)&&true))))))),[]⟩:=by kernel_rfl
theorem VM (k:Int) (a b:List Int) (c:List Bool) (on:Bool) (kd:Int) (d:List Int) (vs:Int) (lcv:List (Nat×LC)):aG tt (aB T43) (lcv) 100 f22 [.agg [.int .i64 k,.view none (.ints .i64 a) a.length 1 none,.view none (.ints .i64 b) b.length 1 none,.view none (.bools c) c.length 1 none,.bool on,.int .i64 kd,.view none (.ints .i64 d) d.length 1 none,.int .i64 vs]] [] [(0,false),(0,false),(0,true)]=
  some ⟨.c (.bool false),[],((!!on)&&(decide (d.length≤274877906944)&&(!!aC d 4&&(!!aC d 4&&(!!aC d 4&&(!!aC d 4&&((bif !aC d 4 then true else !bet kd 1 2)&&((bif !aC d 4 then true else !bet kd 1 2)&&((bif !aC d 4 then true else !bet kd 1 2)&&((bif !aC d 4 then true else !bet kd 1 2)&&((bif !aC d 4 then true else !bet kd 1 2)&&true))))))))))),[]⟩:=by kernel_rfl
theorem VN (k:Int) (a b:List Int) (c:List Bool) (on:Bool) (kd:Int) (d:List Int) (vs:Int) (lcv:List (Nat×LC)):aG tt (aB T43) (lcv) 100 f22 [.agg [.int .i64 k,.view none (.ints .i64 a) a.length 1 none,.view none (.ints .i64 b) b.length 1 none,.view none (.bools c) c.length 1 none,.bool on,.int .i64 kd,.view none (.ints .i64 d) d.length 1 none,.int .i64 vs]] [] [(0,false),(0,false),(0,false),(0,true)]=
  some ⟨.c (.bool false),[],((!!on)&&(decide (d.length≤274877906944)&&(!!aC d 4&&(!!aC d 4&&(!!aC d 4&&(!!aC d 4&&((!bif !aC d 4 then true else !bet kd 1 2)&&((!bif !aC d 4 then true else !bet kd 1 2)&&((!bif !aC d 4 then true else !bet kd 1 2)&&((!bif !aC d 4 then true else !bet kd 1 2)&&((bif bif !aC d 4 then true else !bet kd 1 2 then true else !bet vs 1 99)&&((bif bif !aC d 4 then true else !bet kd 1 2 then true else !bet vs 1 99)&&((bif bif !aC d 4 then true else !bet kd 1 2 then true else !bet vs 1 99)&&((bif bif !aC d 4 then true else !bet kd 1 2 then true else !bet vs 1 99)&&((bif bif !aC d 4 then true else !bet kd 1 2 then true else !bet vs 1 99)&&true))))))))))))))),[]⟩:=by kernel_rfl
theorem VO (k:Int) (a b:List Int) (c:List Bool) (on:Bool) (kd:Int) (d:List Int) (vs:Int) (lcv:List (Nat×LC)):aG tt (aB T43) (lcv) 100 f22 [.agg [.int .i64 k,.view none (.ints .i64 a) a.length 1 none,.view none (.ints .i64 b) b.length 1 none,.view none (.bools c) c.length 1 none,.bool on,.int .i64 kd,.view none (.ints .i64 d) d.length 1 none,.int .i64 vs]] [] [(0,false),(0,false),(0,false),(0,false),(0,true)]=
  some ⟨.c (.bool false),[],((!!on)&&(decide (d.length≤274877906944)&&(!!aC d 4&&(!!aC d 4&&(!!aC d 4&&(!!aC d 4&&((!bif !aC d 4 then true else !bet kd 1 2)&&((!bif !aC d 4 then true else !bet kd 1 2)&&((!bif !aC d 4 then true else !bet kd 1 2)&&((!bif !aC d 4 then true else !bet kd 1 2)&&((!bif bif !aC d 4 then true else !bet kd 1 2 then true else !bet vs 1 99)&&((!bif bif !aC d 4 then true else !bet kd 1 2 then true else !bet vs 1 99)&&((!bif bif !aC d 4 then true else !bet kd 1 2 then true else !bet vs 1 99)&&((!bif bif !aC d 4 then true else !bet kd 1 2 then true else !bet vs 1 99)&&((bif bif bif !aC d 4 then true else !bet kd 1 2 then true else !bet vs 1 99 then true else !d8 a b c)&&true))))))))))))))),[]⟩:=by kernel_rfl
theorem OR (k:Int) (a b:List Int) (c:List Bool) (on:Bool) (kd:Int) (d:List Int) (vs:Int) (lcv:List (Nat×LC)):aG tt (aB T43) (lcv) 100 f22 [.agg [.int .i64 k,.view none (.ints .i64 a) a.length 1 none,.view none (.ints .i64 b) b.length 1 none,.view none (.bools c) c.length 1 none,.bool on,.int .i64 kd,.view none (.ints .i64 d) d.length 1 none,.int .i64 vs]] [] [(0,false),(0,false),(0,false),(0,false),(0,false),(0,true)]=
  some ⟨.c (.bool false),[],((!!on)&&(decide (d.length≤274877906944)&&(!!aC d 4&&(!!aC d 4&&(!!aC d 4&&(!!aC d 4&&((!bif !aC d 4 then true else !bet kd 1 2)&&((!bif !aC d 4 then true else !bet kd 1 2)&&((!bif !aC d 4 then true else !bet kd 1 2)&&((!bif !aC d 4 then true else !bet kd 1 2)&&((!bif bif !aC d 4 then true else !bet kd 1 2 then true else !bet vs 1 99)&&((!bif bif !aC d 4 then true else !bet kd 1 2 then true else !bet vs 1 99)&&((!bif bif !aC d 4 then true else !bet kd 1 2 then true else !bet vs 1 99)&&((!bif bif !aC d 4 then true else !bet kd 1 2 then true else !bet vs 1 99)&&((!bif bif bif !aC d 4 then true else !bet kd 1 2 then true else !bet vs 1 99 then true else !d8 a b c)&&(decide (b.length≤274877906944)&&(decide (a.length=b.length)&&(decide (c.length=b.length)&&(decide (a.length=(aI a b c vs).fst.length)&&(decide (b.length=(aI a b c vs).2.1.length)&&(decide (c.length=(aI a b c vs).2.2.length)&&(!bQ k (aI a b c vs).fst (aI a b c vs).2.1 (aI a b c vs).2.2&&(!bQ k (aI a b c vs).fst (aI a b c vs).2.1 (aI a b c vs).2.2&&(!bQ k (aI a b c vs).fst (aI a b c vs).2.1 (aI a b c vs).2.2&&(!bQ k (aI a b c vs).fst (aI a b c vs).2.1 (aI a b c vs).2.2&&((!bQ k (aI a b c vs).fst (aI a b c vs).2.1 (aI a b c vs).2.2)&&true)))))))))))))))))))))))))),[]⟩:=by kernel_rfl
theorem OS (k:Int) (a b:List Int) (c:List Bool) (on:Bool) (kd:Int) (d:List Int) (vs:Int) (lcv:List (Nat×LC)):aG tt (aB T43) (lcv) 100 f22 [.agg [.int .i64 k,.view none (.ints .i64 a) a.length 1 none,.view none (.ints .i64 b) b.length 1 none,.view none (.bools c) c.length 1 none,.bool on,.int .i64 kd,.view none (.ints .i64 d) d.length 1 none,.int .i64 vs]] [] [(0,false),(0,false),(0,false),(0,false),(0,false),(0,false),(0,true)]=
  some ⟨.c (.bool false),[],((!!on)&&(decide (d.length≤274877906944)&&(!!aC d 4&&(!!aC d 4&&(!!aC d 4&&(!!aC d 4&&((!bif !aC d 4 then true else !bet kd 1 2)&&((!bif !aC d 4 then true else !bet kd 1 2)&&((!bif !aC d 4 then true else !bet kd 1 2)&&((!bif !aC d 4 then true else !bet kd 1 2)&&((!bif bif !aC d 4 then true else !bet kd 1 2 then true else !bet vs 1 99)&&((!bif bif !aC d 4 then true else !bet kd 1 2 then true else !bet vs 1 99)&&((!bif bif !aC d 4 then true else !bet kd 1 2 then true else !bet vs 1 99)&&((!bif bif !aC d 4 then true else !bet kd 1 2 then true else !bet vs 1 99)&&((!bif bif bif !aC d 4 then true else !bet kd 1 2 then true else !bet vs 1 99 then true else !d8 a b c)&&(decide (b.length≤274877906944)&&(decide (a.length=b.length)&&(decide (c.length=b.length)&&(decide (a.length=(aI a b c vs).fst.length)&&(decide (b.length=(aI a b c vs).2.1.length)&&(decide (c.length=(aI a b c vs).2.2.length)&&(!!bQ k (aI a b c vs).fst (aI a b c vs).2.1 (aI a b c vs).2.2&&(!!bQ k (aI a b c vs).fst (aI a b c vs).2.1 (aI a b c vs).2.2&&(decide (a.length=(aI a b c vs).fst.length)&&(decide (b.length=(aI a b c vs).2.1.length)&&(decide (c.length=(aI a b c vs).2.2.length)&&(decide ((aI a b c vs).2.2.length≤8)&&(decide ((aI a b c vs).2.1.length=(aI a b c vs).2.2.length)&&(!!bQ k (aI a b c vs).fst (aI a b c vs).2.1 (aI a b c vs).2.2&&(!!bQ k (aI a b c vs).fst (aI a b c vs).2.1 (aI a b c vs).2.2&&((bif !bQ k (aI a b c vs).fst (aI a b c vs).2.1 (aI a b c vs).2.2 then true else decide ((↑(bJ (aI a b c vs).2.1 (aI a b c vs).2.2).length:Int)>1))&&((bif !bQ k (aI a b c vs).fst (aI a b c vs).2.1 (aI a b c vs).2.2 then true else decide ((↑(bJ (aI a b c vs).2.1 (aI a b c vs).2.2).length:Int)>1))&&((bif !bQ k (aI a b c vs).fst (aI a b c vs).2.1 (aI a b c vs).2.2 then true else decide ((↑(bJ (aI a b c vs).2.1 (aI a b c vs).2.2).length:Int)>1))&&((bif !bQ k (aI a b c vs).fst (aI a b c vs).2.1 (aI a b c vs).2.2 then true else decide ((↑(bJ (aI a b c vs).2.1 (aI a b c vs).2.2).length:Int)>1))&&((bif !bQ k (aI a b c vs).fst (aI a b c vs).2.1 (aI a b c vs).2.2 then true else decide ((↑(bJ (aI a b c vs).2.1 (aI a b c vs).2.2).length:Int)>1))&&((bif !bQ k (aI a b c vs).fst (aI a b c vs).2.1 (aI a b c vs).2.2 then true else decide ((↑(bJ (aI a b c vs).2.1 (aI a b c vs).2.2).length:Int)>1))&&true)))))))))))))))))))))))))))))))))))),[]⟩:=by kernel_rfl
theorem OT (k:Int) (a b:List Int) (c:List Bool) (on:Bool) (kd:Int) (d:List Int) (vs:Int) (lcv:List (Nat×LC)):aG tt (aB T43) (lcv) 100 f22 [.agg [.int .i64 k,.view none (.ints .i64 a) a.length 1 none,.view none (.ints .i64 b) b.length 1 none,.view none (.bools c) c.length 1 none,.bool on,.int .i64 kd,.view none (.ints .i64 d) d.length 1 none,.int .i64 vs]] [] [(0,false),(0,false),(0,false),(0,false),(0,false),(0,false),(0,false),(0,true)]=
  some ⟨.c (.bool false),[],((!!on)&&(decide (d.length≤274877906944)&&(!!aC d 4&&(!!aC d 4&&(!!aC d 4&&(!!aC d 4&&((!bif !aC d 4 then true else !bet kd 1 2)&&((!bif !aC d 4 then true else !bet kd 1 2)&&((!bif !aC d 4 then true else !bet kd 1 2)&&((!bif !aC d 4 then true else !bet kd 1 2)&&((!bif bif !aC d 4 then true else !bet kd 1 2 then true else !bet vs 1 99)&&((!bif bif !aC d 4 then true else !bet kd 1 2 then true else !bet vs 1 99)&&((!bif bif !aC d 4 then true else !bet kd 1 2 then true else !bet vs 1 99)&&((!bif bif !aC d 4 then true else !bet kd 1 2 then true else !bet vs 1 99)&&((!bif bif bif !aC d 4 then true else !bet kd 1 2 then true else !bet vs 1 99 then true else !d8 a b c)&&(decide (b.length≤274877906944)&&(decide (a.length=b.length)&&(decide (c.length=b.length)&&(decide (a.length=(aI a b c vs).fst.length)&&(decide (b.length=(aI a b c vs).2.1.length)&&(decide (c.length=(aI a b c vs).2.2.length)&&(!!bQ k (aI a b c vs).fst (aI a b c vs).2.1 (aI a b c vs).2.2&&(!!bQ k (aI a b c vs).fst (aI a b c vs).2.1 (aI a b c vs).2.2&&(decide (a.length=(aI a b c vs).fst.length)&&(decide (b.length=(aI a b c vs).2.1.length)&&(decide (c.length=(aI a b c vs).2.2.length)&&(decide ((aI a b c vs).2.2.length≤8)&&(decide ((aI a b c vs).2.1.length=(aI a b c vs).2.2.length)&&(!!bQ k (aI a b c vs).fst (aI a b c vs).2.1 (aI a b c vs).2.2&&(!!bQ k (aI a b c vs).fst (aI a b c vs).2.1 (aI a b c vs).2.2&&((!bif !bQ k (aI a b c vs).fst (aI a b c vs).2.1 (aI a b c vs).2.2 then true else decide ((↑(bJ (aI a b c vs).2.1 (aI a b c vs).2.2).length:Int)>1))&&((!bif !bQ k (aI a b c vs).fst (aI a b c vs).2.1 (aI a b c vs).2.2 then true else decide ((↑(bJ (aI a b c vs).2.1 (aI a b c vs).2.2).length:Int)>1))&&(decide (a.length=(aI a b c vs).fst.length)&&(decide (b.length=(aI a b c vs).2.1.length)&&(decide (c.length=(aI a b c vs).2.2.length)&&(decide ((aI a b c vs).2.2.length≤8)&&(decide ((aI a b c vs).2.1.length=(aI a b c vs).2.2.length)&&((!bif !bQ k (aI a b c vs).fst (aI a b c vs).2.1 (aI a b c vs).2.2 then true else decide ((↑(bJ (aI a b c vs).2.1 (aI a b c vs).2.2).length:Int)>1))&&((!bif !bQ k (aI a b c vs).fst (aI a b c vs).2.1 (aI a b c vs).2.2 then true else decide ((↑(bJ (aI a b c vs).2.1 (aI a b c vs).2.2).length:Int)>1))&&((!bif !bQ k (aI a b c vs).fst (aI a b c vs).2.1 (aI a b c vs).2.2 then true else decide ((↑(bJ (aI a b c vs).2.1 (aI a b c vs).2.2).length:Int)>1))&&((bif bif !bQ k (aI a b c vs).fst (aI a b c vs).2.1 (aI a b c vs).2.2 then true else decide ((↑(bJ (aI a b c vs).2.1 (aI a b c vs).2.2).length:Int)>1)then true else decide (gE (aI a b c vs).2.1 (aI a b c vs).2.2≥vs))&&true))))))))))))))))))))))))))))))))))))))))),[]⟩:=by kernel_rfl
theorem OU (k:Int) (a b:List Int) (c:List Bool) (on:Bool) (kd:Int) (d:List Int) (vs:Int):aG tt (aB T43) ([(0,⟨aA f22 0,I22 k a b c on kd d vs (hZ kd d) 0,.normal,X22⟩)]) 100 f22 [.agg [.int .i64 k,.view none (.ints .i64 a) a.length 1 none,.view none (.ints .i64 b) b.length 1 none,.view none (.bools c) c.length 1 none,.bool on,.int .i64 kd,.view none (.ints .i64 d) d.length 1 none,.int .i64 vs]] [] [(0,false),(0,false),(0,false),(0,false),(0,false),(0,false),(0,false),(0,false)]=
  some ⟨.c (.bool true),[],((!!on)&&(decide (d.length≤274877906944)&&(!!aC d 4&&(!!aC d 4&&(!!aC d 4&&(!!aC d 4&&((!bif !aC d 4 then true else !bet kd 1 2)&&((!bif !aC d 4 then true else !bet kd 1 2)&&((!bif !aC d 4 then true else !bet kd 1 2)&&((!bif !aC d 4 then true else !bet kd 1 2)&&((!bif bif !aC d 4 then true else !bet kd 1 2 then true else !bet vs 1 99)&&((!bif bif !aC d 4 then true else !bet kd 1 2 then true else !bet vs 1 99)&&((!bif bif !aC d 4 then true else !bet kd 1 2 then true else !bet vs 1 99)&&((!bif bif !aC d 4 then true else !bet kd 1 2 then true else !bet vs 1 99)&&((!bif bif bif !aC d 4 then true else !bet kd 1 2 then true else !bet vs 1 99 then true else !d8 a b c)&&(decide (b.length≤274877906944)&&(decide (a.length=b.length)&&(decide (c.length=b.length)&&(decide (a.length=(aI a b c vs).fst.length)&&(decide (b.length=(aI a b c vs).2.1.length)&&(decide (c.length=(aI a b c vs).2.2.length)&&(!!bQ k (aI a b c vs).fst (aI a b c vs).2.1 (aI a b c vs).2.2&&(!!bQ k (aI a b c vs).fst (aI a b c vs).2.1 (aI a b c vs).2.2&&(decide (a.length=(aI a b c vs).fst.length)&&(decide (b.length=(aI a b c vs).2.1.length)&&(decide (c.length=(aI a b c vs).2.2.length)&&(decide ((aI a b c vs).2.2.length≤8)&&(decide ((aI a b c vs).2.1.length=(aI a b c vs).2.2.length)&&(!!bQ k (aI a b c vs).fst (aI a b c vs).2.1 (aI a b c vs).2.2&&(!!bQ k (aI a b c vs).fst (aI a b c vs).2.1 (aI a b c vs).2.2&&((!bif !bQ k (aI a b c vs).fst (aI a b c vs).2.1 (aI a b c vs).2.2 then true else decide ((↑(bJ (aI a b c vs).2.1 (aI a b c vs).2.2).length:Int)>1))&&((!bif !bQ k (aI a b c vs).fst (aI a b c vs).2.1 (aI a b c vs).2.2 then true else decide ((↑(bJ (aI a b c vs).2.1 (aI a b c vs).2.2).length:Int)>1))&&(decide (a.length=(aI a b c vs).fst.length)&&(decide (b.length=(aI a b c vs).2.1.length)&&(decide (c.length=(aI a b c vs).2.2.length)&&(decide ((aI a b c vs).2.2.length≤8)&&(decide ((aI a b c vs).2.1.length=(aI a b c vs).2.2.length)&&((!bif !bQ k (aI a b c vs).fst (aI a b c vs).2.1 (aI a b c vs).2.2 then true else decide ((↑(bJ (aI a b c vs).2.1 (aI a b c vs).2.2).length:Int)>1))&&((!bif !bQ k (aI a b c vs).fst (aI a b c vs).2.1 (aI a b c vs).2.2 then true else decide ((↑(bJ (aI a b c vs).2.1 (aI a b c vs).2.2).length:Int)>1))&&((!bif !bQ k (aI a b c vs).fst (aI a b c vs).2.1 (aI a b c vs).2.2 then true else decide ((↑(bJ (aI a b c vs).2.1 (aI a b c vs).2.2).length:Int)>1))&&((!bif bif !bQ k (aI a b c vs).fst (aI a b c vs).2.1 (aI a b c vs).2.2 then true else decide ((↑(bJ (aI a b c vs).2.1 (aI a b c vs).2.2).length:Int)>1)then true else decide (gE (aI a b c vs).2.1 (aI a b c vs).2.2≥vs))&&(bet kd 1 2&&(fok (ifI (aC d 4) (d.getD 0 0))&&(fok (ifI (aC d 4) (d.getD 1 0))&&(fok (ifI (aC d 4) (d.getD 2 0))&&((fok (ifI (aC d 4) (d.getD 3 0)))&&true)))))))))))))))))))))))))))))))))))))))))))))),[I22 k a b c on kd d vs (hZ kd d) 0=I22 k a b c on kd d vs (hZ kd d) 0]⟩:=by kernel_rfl
theorem OV (k:Int) (a b:List Int) (c:List Bool) (on:Bool) (kd:Int) (d:List Int) (vs:Int):aG tt (aB T43) ([(0,⟨aA f22 0,I22 k a b c on kd d vs (hZ kd d) 0,.ret,Y22⟩)]) 100 f22 [.agg [.int .i64 k,.view none (.ints .i64 a) a.length 1 none,.view none (.ints .i64 b) b.length 1 none,.view none (.bools c) c.length 1 none,.bool on,.int .i64 kd,.view none (.ints .i64 d) d.length 1 none,.int .i64 vs]] [] [(0,false),(0,false),(0,false),(0,false),(0,false),(0,false),(0,false),(0,false)]=
  some ⟨.c (.bool false),[],((!!on)&&(decide (d.length≤274877906944)&&(!!aC d 4&&(!!aC d 4&&(!!aC d 4&&(!!aC d 4&&((!bif !aC d 4 then true else !bet kd 1 2)&&((!bif !aC d 4 then true else !bet kd 1 2)&&((!bif !aC d 4 then true else !bet kd 1 2)&&((!bif !aC d 4 then true else !bet kd 1 2)&&((!bif bif !aC d 4 then true else !bet kd 1 2 then true else !bet vs 1 99)&&((!bif bif !aC d 4 then true else !bet kd 1 2 then true else !bet vs 1 99)&&((!bif bif !aC d 4 then true else !bet kd 1 2 then true else !bet vs 1 99)&&((!bif bif !aC d 4 then true else !bet kd 1 2 then true else !bet vs 1 99)&&((!bif bif bif !aC d 4 then true else !bet kd 1 2 then true else !bet vs 1 99 then true else !d8 a b c)&&(decide (b.length≤274877906944)&&(decide (a.length=b.length)&&(decide (c.length=b.length)&&(decide (a.length=(aI a b c vs).fst.length)&&(decide (b.length=(aI a b c vs).2.1.length)&&(decide (c.length=(aI a b c vs).2.2.length)&&(!!bQ k (aI a b c vs).fst (aI a b c vs).2.1 (aI a b c vs).2.2&&(!!bQ k (aI a b c vs).fst (aI a b c vs).2.1 (aI a b c vs).2.2&&(decide (a.length=(aI a b c vs).fst.length)&&(decide (b.length=(aI a b c vs).2.1.length)&&(decide (c.length=(aI a b c vs).2.2.length)&&(decide ((aI a b c vs).2.2.length≤8)&&(decide ((aI a b c vs).2.1.length=(aI a b c vs).2.2.length)&&(!!bQ k (aI a b c vs).fst (aI a b c vs).2.1 (aI a b c vs).2.2&&(!!bQ k (aI a b c vs).fst (aI a b c vs).2.1 (aI a b c vs).2.2&&((!bif !bQ k (aI a b c vs).fst (aI a b c vs).2.1 (aI a b c vs).2.2 then true else decide ((↑(bJ (aI a b c vs).2.1 (aI a b c vs).2.2).length:Int)>1))&&((!bif !bQ k (aI a b c vs).fst (aI a b c vs).2.1 (aI a b c vs).2.2 then true else decide ((↑(bJ (aI a b c vs).2.1 (aI a b c vs).2.2).length:Int)>1))&&(decide (a.length=(aI a b c vs).fst.length)&&(decide (b.length=(aI a b c vs).2.1.length)&&(decide (c.length=(aI a b c vs).2.2.length)&&(decide ((aI a b c vs).2.2.length≤8)&&(decide ((aI a b c vs).2.1.length=(aI a b c vs).2.2.length)&&((!bif !bQ k (aI a b c vs).fst (aI a b c vs).2.1 (aI a b c vs).2.2 then true else decide ((↑(bJ (aI a b c vs).2.1 (aI a b c vs).2.2).length:Int)>1))&&((!bif !bQ k (aI a b c vs).fst (aI a b c vs).2.1 (aI a b c vs).2.2 then true else decide ((↑(bJ (aI a b c vs).2.1 (aI a b c vs).2.2).length:Int)>1))&&((!bif !bQ k (aI a b c vs).fst (aI a b c vs).2.1 (aI a b c vs).2.2 then true else decide ((↑(bJ (aI a b c vs).2.1 (aI a b c vs).2.2).length:Int)>1))&&((!bif bif !bQ k (aI a b c vs).fst (aI a b c vs).2.1 (aI a b c vs).2.2 then true else decide ((↑(bJ (aI a b c vs).2.1 (aI a b c vs).2.2).length:Int)>1)then true else decide (gE (aI a b c vs).2.1 (aI a b c vs).2.2≥vs))&&(bet kd 1 2&&(fok (ifI (aC d 4) (d.getD 0 0))&&(fok (ifI (aC d 4) (d.getD 1 0))&&(fok (ifI (aC d 4) (d.getD 2 0))&&((fok (ifI (aC d 4) (d.getD 3 0)))&&true)))))))))))))))))))))))))))))))))))))))))))))),[I22 k a b c on kd d vs (hZ kd d) 0=I22 k a b c on kd d vs (hZ kd d) 0]⟩:=by kernel_rfl
def kA (a b:List Int) (c:List Bool) (vs:Int) (ev:List Int) (i:Nat):Bool:=bif b.getD i 0==vs then c.getD i false&& !(a.getD i 0 !=ev.getD i 0)else true
theorem l22 (k:Int) (a b:List Int) (c:List Bool) (on:Bool) (kd:Int) (d:List Int) (vs:Int) (ev:List Int) (ha:a.length=8) (hb:b.length=8) (hc:c.length=8) (he:ev.length=8):
  aW Tryz.prog 0 (.block 0 (.loop (a6 0 (a7 f22)))) (I22 k a b c on kd d vs ev 0) fun e t=>e=(bif cC (kA a b c vs ev) 8 0 then .normal else .ret)∧t=bif cC (kA a b c vs ev) 8 0 then X22 else Y22:=by
 refine aW.all hT t43 bM 8 (kA a b c vs ev) (fun i=>I22 k a b c on kd d vs ev i) X22 Y22 .ret (.inr rfl) (aA f22 0) (aD f22 0) (fun _=>[]) (fun _ _=>aF.nil) (fun i hi h=> ?_) (fun i hi h=> ?_)
  ⟨_,_,⟨_,_,YS k a b c on kd d vs ev (8:Nat),by rw[hb];rfl,by simp⟩⟩
 ·unfold kA at h
  cases h1:b.getD i 0==vs with
  |true=>
   rw[h1,cond_true,Bool.and_eq_true,Bool.not_eq_true']at h
   obtain⟨h2,h3⟩:=h
   have e:=YQ k a b c on kd d vs ev i
   rw[aE (by omega) (by omega),Int.toNat_natCast]at e
   refine⟨_,_,⟨_,_,e, ?_,by simp⟩⟩
   simp only[h1,h2,h3,bS]
   omega
  |false=>
   have e:=YR k a b c on kd d vs ev i
   rw[aE (by omega) (by omega),Int.toNat_natCast]at e
   refine⟨_,_,⟨_,_,e, ?_,by simp⟩⟩
   simp only[h1,bS]
   omega
 ·unfold kA at h
  rw[if_neg (by intro h;cases h)]
  cases h1:b.getD i 0==vs with
  |false=>rw[h1]at h;cases h
  |true=>
   rw[h1,cond_true]at h
   cases h2:c.getD i false with
   |false=>
    have e:=YN k a b c on kd d vs ev i
    rw[Int.toNat_natCast]at e
    refine⟨_,_,⟨_,_,e, ?_,by simp⟩⟩
    simp only[h1,h2,bS]
    omega
   |true=>
    rw[h2,Bool.true_and,Bool.not_eq_false']at h
    have e:=YP k a b c on kd d vs ev i
    rw[Int.toNat_natCast]at e
    refine⟨_,_,⟨_,_,e, ?_,by simp⟩⟩
    simp only[h1,h2,h,bS]
    omega
theorem p8 {v:List Int} {n:Int} (h:aC v n=true) (i:Nat):fok (v.getD i 0)=true:=by
 simp only[aC,Bool.and_eq_true]at h
 exact aR h.1 i
def rsA (a b:List Int) (c:List Bool) (vs:Int):List Int:=(aI a b c vs).1
def rsB (a b:List Int) (c:List Bool) (vs:Int):List Int:=(aI a b c vs).2.1
def rsC (a b:List Int) (c:List Bool) (vs:Int):List Bool:=(aI a b c vs).2.2
def pC (k:Int) (a b:List Int) (c:List Bool) (kd:Int) (d:List Int) (vs:Int):Bool:=srS k a b c&&((kd==0)&&(((d.length:Int)==0)&&((vs==0)&&(((bJ b c).length:Int)==1))))
def tA (k:Int) (a b:List Int) (c:List Bool) (kd:Int) (d:List Int) (vs:Int):Bool:=
 aC d 4&&(bet kd 1 2&&(bet vs 1 99&&(d8 a b c&&(bQ k (rsA a b c vs) (rsB a b c vs) (rsC a b c vs)&&(!decide (((bJ (rsB a b c vs) (rsC a b c vs)).length:Int)>1)&&
  (!decide (gE (rsB a b c vs) (rsC a b c vs)≥vs)&&cC (kA a b c vs (hZ kd d)) 8 0))))))
def aO (k:Int) (a b:List Int) (c:List Bool) (on:Bool) (kd:Int) (d:List Int) (vs:Int):Bool:=bif on then tA k a b c kd d vs else pC k a b c kd d vs
theorem tU (a b:List Int) (c:List Bool) (vs:Int):(rsA a b c vs).length=a.length∧(rsB a b c vs).length=b.length∧(rsC a b c vs).length=c.length:=
 bH (step:=qR vs) (fun _ s=>s.1.length=a.length∧s.2.1.length=b.length∧s.2.2.length=c.length) b.length (a,b,c) ⟨rfl,rfl,rfl⟩ fun i s _ h=>by
  unfold qR
  cases s.2.1.getD i 0==vs
  ·exact h
  ·simp[h.1,h.2.1,h.2.2]
def GG:aQ:=fun args h=>
 match args,h with
 |[.agg [.int .i64 k,.view _ (.ints .i64 a) n1 1 _,.view _ (.ints .i64 b) n2 1 _,.view _ (.bools c) n3 1 _,.bool on,.int .i64 kd,.view _ (.ints .i64 d) n4 1 _,.int .i64 vs]],[]=>
  some (.c (.bool (aO k a b c on kd d vs)),[],[decide (d.length≤274877906944)])
 |_,_=>none
theorem m22:aV Tryz.prog 25 GG:=by
 intro args h res h' o hnorm he ho
 unfold GG at he
 split at he
 case h_2=>cases he
 rename_i k nl1 a n1 cap1 nl2 b n2 cap2 nl3 c n3 cap3 on kd nl4 d n4 cap4 vs
 simp only[Option.some.injEq,Prod.mk.injEq]at he
 obtain⟨rfl,rfl,rfl⟩:=he
 simp only[List.mem_cons,List.not_mem_nil,or_false,forall_eq_or_imp,forall_eq,decide_eq_true_eq]at ho
 have o1:=ho
 simp only[bG,AV.norm,bI,aJ.norm,Con.size,List.cons.injEq,AV.c.injEq,AV.agg.injEq,aJ.view.injEq,aN,true_and,and_true]at hnorm
 obtain⟨⟨rfl,rfl,rfl⟩,⟨rfl,rfl,rfl⟩,⟨rfl,rfl,rfl⟩,rfl,rfl,rfl⟩:=hnorm
 have st: ∀(x:Bool) (p:iM) (ob:Bool),(∀lcv,aG tt (aB T43) lcv 100 f22 [.agg [.int .i64 k,.view none (.ints .i64 a) a.length 1 none,.view none (.ints .i64 b) b.length 1 none,.view none (.bools c) c.length 1 none,.bool on,.int .i64 kd,.view none (.ints .i64 d) d.length 1 none,.int .i64 vs]] [] p=some ⟨.c (.bool x),[],ob,[]⟩)→ob=true→bE Tryz.prog 25 [.agg [.int .i64 k,.view none (.ints .i64 a) a.length 1 none,.view none (.ints .i64 b) b.length 1 none,.view none (.bools c) c.length 1 none,.bool on,.int .i64 kd,.view none (.ints .i64 d) d.length 1 none,.int .i64 vs]] [] (.c (.bool x)) []:=
  fun x p ob h1 h2=>a5 t43 (by kernel_rfl) (by kernel_rfl) (h1 []) h2 (by simp) (fun c _=>aF.nil)
 cases on with
 |false=>
  show bE _ _ _ _ (.c (.bool (pC k a b c kd d vs))) _
  unfold pC
  cases h1:srS k a b c with
  |false=>exact st _ _ _ (VK k a b c false kd d vs) (by simp only[h1];rfl)
  |true=>
   obtain⟨q1,q2,q3,q4,q5⟩:=eX (k:=k) (a:=a) (b:=b) (c:=c) (by
    unfold srS at h1
    cases h:bQ k a b c with
    |true=>rfl
    |false=>rw[h]at h1;cases h1)
   cases h2:kd==0 with
   |false=>exact st _ _ _ (VJ k a b c false kd d vs) (by simp only[h1,h2];rfl)
   |true=>
    cases h3:(d.length:Int)==0 with
    |false=>exact st _ _ _ (VI k a b c false kd d vs) (by simp only[h1,h2,h3];rfl)
    |true=>
     cases h4:vs==0 with
     |false=>exact st _ _ _ (VH k a b c false kd d vs) (by simp only[h1,h2,h3,h4];rfl)
     |true=>
      have e:=VG k a b c false kd d vs
      simp only[h1,h2,h3,h4,cond_true]at e
      exact st _ _ _ e (by simp only[q2,q3,q4,bS];omega)
 |true=>
  show bE _ _ _ _ (.c (.bool (tA k a b c kd d vs))) _
  unfold tA
  obtain⟨z1,z2,z3⟩:=tU a b c vs
  dsimp only[rsA,rsB,rsC]at z1 z2 z3
  cases h1:aC d 4 with
  |false=>exact st _ _ _ (VL k a b c true kd d vs) (by simp only[h1,bS];exact o1)
  |true=>
   cases h2:bet kd 1 2 with
   |false=>exact st _ _ _ (VM k a b c true kd d vs) (by simp only[h1,h2,bS];exact o1)
   |true=>
    cases h3:bet vs 1 99 with
    |false=>exact st _ _ _ (VN k a b c true kd d vs) (by simp only[h1,h2,h3,bS];exact o1)
    |true=>
     cases h4:d8 a b c with
     |false=>exact st _ _ _ (VO k a b c true kd d vs) (by simp only[h1,h2,h3,h4,bS];exact o1)
     |true=>
      obtain⟨ha,hb,hc⟩:=fQ.1 h4
      cases h5:bQ k (rsA a b c vs) (rsB a b c vs) (rsC a b c vs)with
      |false=>exact st _ _ _ (OR k a b c true kd d vs) (by
        have h5:bQ k (aI a b c vs).1 (aI a b c vs).2.1 (aI a b c vs).2.2=false:=h5
        simp only[h1,h2,h3,h4,h5,bS];omega)
      |true=>
       cases h6:decide (((bJ (rsB a b c vs) (rsC a b c vs)).length:Int)>1)with
       |true=>exact st _ _ _ (OS k a b c true kd d vs) (by
         have h5:bQ k (aI a b c vs).1 (aI a b c vs).2.1 (aI a b c vs).2.2=true:=h5
         have h6:decide (((bJ (aI a b c vs).2.1 (aI a b c vs).2.2).length:Int)>1)=true:=h6
         simp only[h1,h2,h3,h4,h5,h6,bS];omega)
       |false=>
        cases h7:decide (gE (rsB a b c vs) (rsC a b c vs)≥vs)with
        |true=>exact st _ _ _ (OT k a b c true kd d vs) (by
         have h5:bQ k (aI a b c vs).1 (aI a b c vs).2.1 (aI a b c vs).2.2=true:=h5
         have h6:decide (((bJ (aI a b c vs).2.1 (aI a b c vs).2.2).length:Int)>1)=false:=h6
         have h7:decide (gE (aI a b c vs).2.1 (aI a b c vs).2.2≥vs)=true:=h7
         simp only[h1,h2,h3,h4,h5,h6,h7,bS];omega)
        |false=>
         have g:=l22 k a b c true kd d vs (hZ kd d) ha hb hc rfl
         have hf:=p8 h1
         cases h8:cC (kA a b c vs (hZ kd d)) 8 0 with
         |true=>
          rw[h8]at g
          exact a5 t43 (by kernel_rfl) (by kernel_rfl) (OU k a b c true kd d vs) (by
           have h5:bQ k (aI a b c vs).1 (aI a b c vs).2.1 (aI a b c vs).2.2=true:=h5
           have h6:decide (((bJ (aI a b c vs).2.1 (aI a b c vs).2.2).length:Int)>1)=false:=h6
           have h7:decide (gE (aI a b c vs).2.1 (aI a b c vs).2.2≥vs)=false:=h7
           simp only[h1,h2,h3,h4,h5,h6,h7,ifI,hf,bS];omega) (by simp) (fun cc hcc=>aF.cons (c:=cc) (by cases hcc;kernel_rfl) (by cases hcc;exact g) aF.nil)
         |false=>
          rw[h8]at g
          exact a5 t43 (by kernel_rfl) (by kernel_rfl) (OV k a b c true kd d vs) (by
           have h5:bQ k (aI a b c vs).1 (aI a b c vs).2.1 (aI a b c vs).2.2=true:=h5
           have h6:decide (((bJ (aI a b c vs).2.1 (aI a b c vs).2.2).length:Int)>1)=false:=h6
           have h7:decide (gE (aI a b c vs).2.1 (aI a b c vs).2.2≥vs)=false:=h7
           simp only[h1,h2,h3,h4,h5,h6,h7,ifI,hf,bS];omega) (by simp) (fun cc hcc=>aF.cons (c:=cc) (by cases hcc;kernel_rfl) (by cases hcc;exact g) aF.nil)
end
section
noncomputable def T44:List bF:=[⟨25,[],nm GG⟩]++T43
theorem e44:a8 Tryz.prog T44:=by
 refine a8.append ?_ e43
 intro e he
 simp only[List.mem_cons,List.not_mem_nil,or_false]at he
 subst he;exact m22.ok
theorem t44:bN Tryz.prog (aB T44):=aP e44
structure PK where
 k:Int
 a:List Int
 b:List Int
 c:List Bool
 on:Bool
 kd:Int
 d:List Int
 vs:Int
def PK.cells (x:PK):List aJ:=[.int .i64 x.k,.sl 0 0 x.a.length 1 none,.sl 1 0 x.b.length 1 none,.sl 2 0 x.c.length 1 none,.bool x.on,.int .i64 x.kd,.sl 3 0 x.d.length 1 none,.int .i64 x.vs]
def PK.heap (x:PK):List b9:=[.live (.ints .i64 x.a),.live (.ints .i64 x.b),.live (.bools x.c),.live (.ints .i64 x.d)]
def PK.ok (x:PK):Bool:=aO x.k x.a x.b x.c x.on x.kd x.d x.vs
def PK0:PK:=⟨0,[],[],[],false,0,[],0⟩
theorem wK {P:Program} {f:FuncId} {args:List AV} {h:List b9} (hm:bE P f args [] (.agg [.int .i64 0,.nils,.nils,.nils,.bool false,.int .i64 0,.nils,.int .i64 0]) []):bE P f args [] (.agg PK0.cells) PK0.heap:=
 (((hm.nil1 (es:=1) (c0:=.ints .i64 []) rfl rfl).nil1 (es:=1) (c0:=.ints .i64 []) rfl rfl).nil1 (es:=1) (c0:=.bools []) rfl rfl).nil1 (es:=1) (c0:=.ints .i64 []) rfl rfl
theorem gR {P:Program} {f:FuncId} {args:List AV} {b:Bool} (hm:bE P f args [] (.tup [.agg [.int .i64 0,.nils,.nils,.nils,.bool false,.int .i64 0,.nils,.int .i64 0],.c (.bool b)]) []):bE P f args [] (.tup [.agg PK0.cells,.c (.bool b)]) PK0.heap:=
 (((hm.nil1 (es:=1) (c0:=.ints .i64 []) rfl rfl).nil1 (es:=1) (c0:=.ints .i64 []) rfl rfl).nil1 (es:=1) (c0:=.bools []) rfl rfl).nil1 (es:=1) (c0:=.ints .i64 []) rfl rfl
theorem dL {k:Int} {a b:List Int} {c:List Bool} {on:Bool} {kd:Int} {d:List Int} {vs:Int} (h:aO k a b c on kd d vs=true):a.length=8∧b.length=8∧c.length=8:=by
 unfold aO at h
 cases on with
 |true=>
  simp only[cond_true,tA,Bool.and_eq_true]at h
  exact fQ.1 h.2.2.2.1
 |false=>
  simp only[cond_false,pC,Bool.and_eq_true]at h
  have h1:=h.1
  unfold srS at h1
  cases hs:bQ k a b c with
  |true=>exact⟨(eX hs).2.1,(eX hs).2.2.1,(eX hs).2.2.2.1⟩
  |false=>rw[hs]at h1;cases h1
theorem E1 {k:Int} {a b:List Int} {c:List Bool} {on:Bool} {kd:Int} {d:List Int} {vs:Int} (h:aO k a b c on kd d vs=true) (ho:on=false):bQ k a b c=true∧d=[]∧kd=0∧vs=0:=by
 subst ho
 simp only[aO,cond_false,pC,Bool.and_eq_true,beq_iff_eq]at h
 obtain⟨h1,h2,h3,h4,h5⟩:=h
 unfold srS at h1
 refine⟨?_,List.eq_nil_of_length_eq_zero (by omega),h2,h4⟩
 cases hs:bQ k a b c with
 |true=>rfl
 |false=>rw[hs]at h1;cases h1
theorem CQ {k:Int} {a b:List Int} {c:List Bool} {on:Bool} {kd:Int} {d:List Int} {vs:Int} (h:aO k a b c on kd d vs=true) (ho:on=true):aC d 4=true∧bet kd 1 2=true∧bet vs 1 99=true:=by
 subst ho
 simp only[aO,cond_true,tA,Bool.and_eq_true]at h
 exact⟨h.1,h.2.1,h.2.2.1⟩
def krD (k:Int) (a b:List Int) (c:List Bool) (on:Bool) (kd:Int) (d:List Int) (vs:Int):List Int:=bif aO k a b c on kd d vs then(bif on then d else rdD k a b c)else []
def krB (k:Int) (a b:List Int) (c:List Bool) (on:Bool) (kd:Int) (d:List Int) (vs:Int):Bool:=bif aO k a b c on kd d vs then(bif on then true else rdS k a b c)else false
theorem a1H (k:Int) (a b:List Int) (c:List Bool) (on:Bool) (kd:Int) (d:List Int) (vs:Int):aG tt (aB T44) ([]) 100 Tryz.f20 [.agg [.int .i64 k,.view none (.ints .i64 a) a.length 1 none,.view none (.ints .i64 b) b.length 1 none,.view none (.bools c) c.length 1 none,.bool on,.int .i64 kd,.view none (.ints .i64 d) d.length 1 none,.int .i64 vs]] [] [(0,true)]=
  some ⟨.tup [.c .nils,.c (.bool false)],[],(decide (d.length≤274877906944)&&((!aO k a b c on kd d vs)&&true)),[]⟩:=by kernel_rfl
theorem a1I (k:Int) (a b:List Int) (c:List Bool) (on:Bool) (kd:Int) (d:List Int) (vs:Int):aG tt (aB T44) ([]) 100 Tryz.f20 [.agg [.int .i64 k,.view none (.ints .i64 a) a.length 1 none,.view none (.ints .i64 b) b.length 1 none,.view none (.bools c) c.length 1 none,.bool on,.int .i64 kd,.view none (.ints .i64 d) d.length 1 none,.int .i64 vs]] [] [(0,false),(0,true)]=
  some ⟨.tup [.c (.sl 0 0 (↑d.length:Int).toNat 1 none),.c (.bool true)],[.live (.ints .i64 d)],(decide (d.length≤274877906944)&&(!!aO k a b c on kd d vs&&((on)&&(decide (d.length≤274877906944)&&((decide ((↑d.length:Int)≤(↑d.length:Int))&&(decide ((↑d.length:Int)≤(↑d.length:Int))&&true))&&true))))),[]⟩:=by kernel_rfl
theorem a1J (k:Int) (a b:List Int) (c:List Bool) (on:Bool) (kd:Int) (d:List Int) (vs:Int):aG tt (aB T44) ([]) 100 Tryz.f20 [.agg [.int .i64 k,.view none (.ints .i64 a) a.length 1 none,.view none (.ints .i64 b) b.length 1 none,.view none (.bools c) c.length 1 none,.bool on,.int .i64 kd,.view none (.ints .i64 d) d.length 1 none,.int .i64 vs]] [] [(0,false),(0,false)]=
  some ⟨.tup [.c (.sl 0 0 (rdD k a b c).length 1 none),.c (.bool (rdS k a b c))],[.live (.ints .i64 (rdD k a b c))],(decide (d.length≤274877906944)&&(!!aO k a b c on kd d vs&&((!on)&&(decide (c.length=8)&&(decide (b.length=8)&&(decide (a.length=8)&&(bet k 1 2&&((a9 a)&&true)))))))),[]⟩:=by kernel_rfl
def wS:aQ:=fun args h=>
 match args,h with
 |[.agg [.int .i64 k,.view _ (.ints .i64 a) n1 1 _,.view _ (.ints .i64 b) n2 1 _,.view _ (.bools c) n3 1 _,.bool on,.int .i64 kd,.view _ (.ints .i64 d) n4 1 _,.int .i64 vs]],[]=>
  some (.tup [.c (.sl 0 0 (krD k a b c on kd d vs).length 1 none),.c (.bool (krB k a b c on kd d vs))],[.live (.ints .i64 (krD k a b c on kd d vs))],[decide (d.length≤274877906944)])
 |_,_=>none
theorem m20:aV Tryz.prog 20 wS:=by
 intro args h res h' o hnorm he ho
 unfold wS at he
 split at he
 case h_2=>cases he
 rename_i k nl1 a n1 cap1 nl2 b n2 cap2 nl3 c n3 cap3 on kd nl4 d n4 cap4 vs
 simp only[Option.some.injEq,Prod.mk.injEq]at he
 obtain⟨rfl,rfl,rfl⟩:=he
 simp only[List.mem_cons,List.not_mem_nil,or_false,forall_eq_or_imp,forall_eq,decide_eq_true_eq]at ho
 have o1:=ho
 simp only[bG,AV.norm,bI,aJ.norm,Con.size,List.cons.injEq,AV.c.injEq,AV.agg.injEq,aJ.view.injEq,aN,true_and,and_true]at hnorm
 obtain⟨⟨rfl,rfl,rfl⟩,⟨rfl,rfl,rfl⟩,⟨rfl,rfl,rfl⟩,rfl,rfl,rfl⟩:=hnorm
 unfold krD krB
 cases h:aO k a b c on kd d vs with
 |false=>exact bE.nilTup (h':=[]) (c0:=.ints .i64 []) (a5 t44 (by kernel_rfl) (by kernel_rfl) (a1H k a b c on kd d vs) (by simp only[h,o1];rfl) (by simp) (fun cc _=>aF.nil)) rfl
 |true=>
  obtain⟨ha,hb,hc⟩:=dL h
  cases ho:on with
  |true=>subst ho;exact a5 t44 (by kernel_rfl) (by kernel_rfl) (a1I k a b c true kd d vs) (by simp[h,o1]) (by simp) (fun cc _=>aF.nil)
  |false=>
   obtain⟨hs,-,-,-⟩:=E1 h ho
   obtain⟨q1,q2,q3,q4,q5⟩:=eX hs
   subst ho
   exact a5 t44 (by kernel_rfl) (by kernel_rfl) (a1J k a b c false kd d vs) (by simp[h,o1,q1,q2,q3,q4,q5]) (by simp) (fun cc _=>aF.nil)
def dR {α:Type} (x:α):List α:=[x,x,x,x,x,x,x,x]
def bU (x:PK):PK:=bif x.ok then(bif x.on then⟨x.kd,hZ x.kd x.d,dR x.vs,dR true,false,0,[],0⟩else x)else PK0
theorem FO {α:Type} {a:List α} (h:a.length=8) (x0 x1 x2 x3 x4 x5 x6 x7:α):((((((((a.set 0 x0).set 1 x1).set 2 x2).set 3 x3).set 4 x4).set 5 x5).set 6 x6).set 7 x7)=[x0,x1,x2,x3,x4,x5,x6,x7]:=by
 match a,h with
 |[_,_,_,_,_,_,_,_],_=>rfl
theorem a16 (k:Int) (a b:List Int) (c:List Bool) (on:Bool) (kd:Int) (d:List Int) (vs:Int):aG tt (aB T44) ([]) 100 Tryz.f21 [.agg [.int .i64 k,.view none (.ints .i64 a) a.length 1 none,.view none (.ints .i64 b) b.length 1 none,.view none (.bools c) c.length 1 none,.bool on,.int .i64 kd,.view none (.ints .i64 d) d.length 1 none,.int .i64 vs]] [] [(0,true)]=
  some ⟨.agg [.int .i64 0,.nils,.nils,.nils,.bool false,.int .i64 0,.nils,.int .i64 0],[],(decide (d.length≤274877906944)&&((!aO k a b c on kd d vs)&&true)),[]⟩:=by kernel_rfl
theorem a17 (k:Int) (a b:List Int) (c:List Bool) (on:Bool) (kd:Int) (d:List Int) (vs:Int):aG tt (aB T44) ([]) 100 Tryz.f21 [.agg [.int .i64 k,.view none (.ints .i64 a) a.length 1 none,.view none (.ints .i64 b) b.length 1 none,.view none (.bools c) c.length 1 none,.bool on,.int .i64 kd,.view none (.ints .i64 d) d.length 1 none,.int .i64 vs]] [] [(0,false),(0,true)]=
  some ⟨.agg [.int .i64 k,.sl 0 0 a.length 1 none,.sl 1 0 b.length 1 none,.sl 2 0 c.length 1 none,.bool on,.int .i64 kd,.sl 3 0 d.length 1 none,.int .i64 vs],[.live (.ints .i64 a),.live (.ints .i64 b),.live (.bools c),.live (.ints .i64 d)],(decide (d.length≤274877906944)&&(!!aO k a b c on kd d vs&&(decide (a.length≤274877906944)&&(decide (b.length≤274877906944)&&(decide (c.length≤274877906944)&&(decide (d.length≤274877906944)&&((!on)&&true))))))),[]⟩:=by kernel_rfl
theorem a18 (k:Int) (a b:List Int) (c:List Bool) (on:Bool) (kd:Int) (d:List Int) (vs:Int):aG tt (aB T44) ([]) 100 Tryz.f21 [.agg [.int .i64 k,.view none (.ints .i64 a) a.length 1 none,.view none (.ints .i64 b) b.length 1 none,.view none (.bools c) c.length 1 none,.bool on,.int .i64 kd,.view none (.ints .i64 d) d.length 1 none,.int .i64 vs]] [] [(0,false),(0,false)]=
  some ⟨.agg [.int .i64 kd,.sl 0 0 a.length 1 none,.sl 1 0 b.length 1 none,.sl 2 0 c.length 1 none,.bool false,.int .i64 0,.nils,.int .i64 0],[.live (.ints .i64 ((((((((a.set 0 (c8 kd [ifI (aC d 4) (d.getD 0 0),ifI (aC d 4) (d.getD 1 0),ifI (aC d 4) (d.getD 2 0),ifI (aC d 4) (d.getD 3 0)] 0)).set 1 (c8 kd [ifI (aC d 4) (d.getD 0 0),ifI (aC d 4) (d.getD 1 0),ifI (aC d 4) (d.getD 2 0),ifI (aC d 4) (d.getD 3 0)] 1)).set 2 (c8 kd [ifI (aC d 4) (d.getD 0 0),ifI (aC d 4) (d.getD 1 0),ifI (aC d 4) (d.getD 2 0),ifI (aC d 4) (d.getD 3 0)] 2)).set 3 (c8 kd [ifI (aC d 4) (d.getD 0 0),ifI (aC d 4) (d.getD 1 0),ifI (aC d 4) (d.getD 2 0),ifI (aC d 4) (d.getD 3 0)] 3)).set 4 (c8 kd [ifI (aC d 4) (d.getD 0 0),ifI (aC d 4) (d.getD 1 0),ifI (aC d 4) (d.getD 2 0),ifI (aC d 4) (d.getD 3 0)] 4)).set 5 (c8 kd [ifI (aC d 4) (d.getD 0 0),ifI (aC d 4) (d.getD 1 0),ifI (aC d 4) (d.getD 2 0),ifI (aC d 4) (d.getD 3 0)] 5)).set 6 (c8 kd [ifI (aC d 4) (d.getD 0 0),ifI (aC d 4) (d.getD 1 0),ifI (aC d 4) (d.getD 2 0),ifI (aC d 4) (d.getD 3 0)] 6)).set 7 (c8 kd [ifI (aC d 4) (d.getD 0 0),ifI (aC d 4) (d.getD 1 0),ifI (aC d 4) (d.getD 2 0),ifI (aC d 4) (d.getD 3 0)] 7))),.live (.ints .i64 ((((((((b.set 0 vs).set 1 vs).set 2 vs).set 3 vs).set 4 vs).set 5 vs).set 6 vs).set 7 vs)),.live (.bools ((((((((c.set 0 true).set 1 true).set 2 true).set 3 true).set 4 true).set 5 true).set 6 true).set 7 true))],(decide (d.length≤274877906944)&&(!!aO k a b c on kd d vs&&(decide (a.length≤274877906944)&&(decide (b.length≤274877906944)&&(decide (c.length≤274877906944)&&(decide (d.length≤274877906944)&&((!!on)&&((decide (d.length=d.length)&&(decide (d.length≤274877906944)&&(bet kd 1 2&&(fok (ifI (aC d 4) (d.getD 0 0))&&(fok (ifI (aC d 4) (d.getD 1 0))&&(fok (ifI (aC d 4) (d.getD 2 0))&&(fok (ifI (aC d 4) (d.getD 3 0))&&(decide (0<(↑a.length:Int))&&(decide (0<a.length)&&(decide (0<(↑b.length:Int))&&(decide (0<b.length)&&(decide (0<(↑c.length:Int))&&(decide (0<c.length)&&true)))))&&true))))))))&&((decide (d.length=d.length)&&(decide (d.length≤274877906944)&&(bet kd 1 2&&(fok (ifI (aC d 4) (d.getD 0 0))&&(fok (ifI (aC d 4) (d.getD 1 0))&&(fok (ifI (aC d 4) (d.getD 2 0))&&(fok (ifI (aC d 4) (d.getD 3 0))&&(decide (1<(↑a.length:Int))&&(decide (1<(a.set 0 (c8 kd [ifI (aC d 4) (d.getD 0 0),ifI (aC d 4) (d.getD 1 0),ifI (aC d 4) (d.getD 2 0),ifI (aC d 4) (d.getD 3 0)] 0)).length)&&(decide (1<(↑b.length:Int))&&(decide (1<(b.set 0 vs).length)&&(decide (1<(↑c.length:Int))&&(decide (1<(c.set 0 true).length)&&true)))))&&true))))))))&&((decide (d.length=d.length)&&(decide (d.length≤274877906944)&&(bet kd 1 2&&(fok (ifI (aC d 4) (d.getD 0 0))&&(fok (ifI (aC d 4) (d.getD 1 0))&&(fok (ifI (aC d 4) (d.getD 2 0))&&(fok (ifI (aC d 4) (d.getD 3 0))&&(decide (2<(↑a.length:Int))&&(decide (2<((a.set 0 (c8 kd [ifI (aC d 4) (d.getD 0 0),ifI (aC d 4) (d.getD 1 0),ifI (aC d 4) (d.getD 2 0),ifI (aC d 4) (d.getD 3 0)] 0)).set 1 (c8 kd [ifI (aC d 4) (d.getD 0 0),ifI (aC d 4) (d.getD 1 0),ifI (aC d 4) (d.getD 2 0),ifI (aC d 4) (d.getD 3 0)] 1)).length)&&(decide (2<(↑b.length:Int))&&(decide (2<((b.set 0 vs).set 1 vs).length)&&(decide (2<(↑c.length:Int))&&(decide (2<((c.set 0 true).set 1 true).length)&&true)))))&&true))))))))&&((decide (d.length=d.length)&&(decide (d.length≤274877906944)&&(bet kd 1 2&&(fok (ifI (aC d 4) (d.getD 0 0))&&(fok (ifI (aC d 4) (d.getD 1 0))&&(fok (ifI (aC d 4) (d.getD 2 0))&&(fok (ifI (aC d 4) (d.getD 3 0))&&(decide (3<(↑a.length:Int))&&(decide (3<(((a.set 0 (c8 kd [ifI (aC d 4) (d.getD 0 0),ifI (aC d 4) (d.getD 1 0),ifI (aC d 4) (d.getD 2 0),ifI (aC d 4) (d.getD 3 0)] 0)).set 1 (c8 kd [ifI (aC d 4) (d.getD 0 0),ifI (aC d 4) (d.getD 1 0),ifI (aC d 4) (d.getD 2 0),ifI (aC d 4) (d.getD 3 0)] 1)).set 2 (c8 kd [ifI (aC d 4) (d.getD 0 0),ifI (aC d 4) (d.getD 1 0),ifI (aC d 4) (d.getD 2 0),ifI (aC d 4) (d.getD 3 0)] 2)).length)&&(decide (3<(↑b.length:Int))&&(decide (3<(((b.set 0 vs).set 1 vs).set 2 vs).length)&&(decide (3<(↑c.length:Int))&&(decide (3<(((c.set 0 true).set 1 true).set 2 true).length)&&true)))))&&true))))))))&&((decide (d.length=d.length)&&(decide (d.length≤274877906944)&&(bet kd 1 2&&(fok (ifI (aC d 4) (d.getD 0 0))&&(fok (ifI (aC d 4) (d.getD 1 0))&&(fok (ifI (aC d 4) (d.getD 2 0))&&(fok (ifI (aC d 4) (d.getD 3 0))&&(decide (4<(↑a.length:Int))&&(decide (4<((((a.set 0 (c8 kd [ifI (aC d 4) (d.getD 0 0),ifI (aC d 4) (d.getD 1 0),ifI (aC d 4) (d.getD 2 0),ifI (aC d 4) (d.getD 3 0)] 0)).set 1 (c8 kd [ifI (aC d 4) (d.getD 0 0),ifI (aC d 4) (d.getD 1 0),ifI (aC d 4) (d.getD 2 0),ifI (aC d 4) (d.getD 3 0)] 1)).set 2 (c8 kd [ifI (aC d 4) (d.getD 0 0),ifI (aC d 4) (d.getD 1 0),ifI (aC d 4) (d.getD 2 0),ifI (aC d 4) (d.getD 3 0)] 2)).set 3 (c8 kd [ifI (aC d 4) (d.getD 0 0),ifI (aC d 4) (d.getD 1 0),ifI (aC d 4) (d.getD 2 0),ifI (aC d 4) (d.getD 3 0)] 3)).length)&&(decide (4<(↑b.length:Int))&&(decide (4<((((b.set 0 vs).set 1 vs).set 2 vs).set 3 vs).length)&&(decide (4<(↑c.length:Int))&&(decide (4<((((c.set 0 true).set 1 true).set 2 true).set 3 true).length)&&true)))))&&true))))))))&&((decide (d.length=d.length)&&(decide (d.length≤274877906944)&&(bet kd 1 2&&(fok (ifI (aC d 4) (d.getD 0 0))&&(fok (ifI (aC d 4) (d.getD 1 0))&&(fok (ifI (aC d 4) (d.getD 2 0))&&(fok (ifI (aC d 4) (d.getD 3 0))&&(decide (5<(↑a.length:Int))&&(decide (5<(((((a.set 0 (c8 kd [ifI (aC d 4) (d.getD 0 0),ifI (aC d 4) (d.getD 1 0),ifI (aC d 4) (d.getD 2 0),ifI (aC d 4) (d.getD 3 0)] 0)).set 1 (c8 kd [ifI (aC d 4) (d.getD 0 0),ifI (aC d 4) (d.getD 1 0),ifI (aC d 4) (d.getD 2 0),ifI (aC d 4) (d.getD 3 0)] 1)).set 2 (c8 kd [ifI (aC d 4) (d.getD 0 0),ifI (aC d 4) (d.getD 1 0),ifI (aC d 4) (d.getD 2 0),ifI (aC d 4) (d.getD 3 0)] 2)).set 3 (c8 kd [ifI (aC d 4) (d.getD 0 0),ifI (aC d 4) (d.getD 1 0),ifI (aC d 4) (d.getD 2 0),ifI (aC d 4) (d.getD 3 0)] 3)).set 4 (c8 kd [ifI (aC d 4) (d.getD 0 0),ifI (aC d 4) (d.getD 1 0),ifI (aC d 4) (d.getD 2 0),ifI (aC d 4) (d.getD 3 0)] 4)).length)&&(decide (5<(↑b.length:Int))&&(decide (5<(((((b.set 0 vs).set 1 vs).set 2 vs).set 3 vs).set 4 vs).length)&&(decide (5<(↑c.length:Int))&&(decide (5<(((((c.set 0 true).set 1 true).set 2 true).set 3 true).set 4 true).length)&&true)))))&&true))))))))&&((decide (d.length=d.length)&&(decide (d.length≤274877906944)&&(bet kd 1 2&&(fok (ifI (aC d 4) (d.getD 0 0))&&(fok (ifI (aC d 4) (d.getD 1 0))&&(fok (ifI (aC d 4) (d.getD 2 0))&&(fok (ifI (aC d 4) (d.getD 3 0))&&(decide (6<(↑a.length:Int))&&(decide (6<((((((a.set 0 (c8 kd [ifI (aC d 4) (d.getD 0 0),ifI (aC d 4) (d.getD 1 0),ifI (aC d 4) (d.getD 2 0),ifI (aC d 4) (d.getD 3 0)] 0)).set 1 (c8 kd [ifI (aC d 4) (d.getD 0 0),ifI (aC d 4) (d.getD 1 0),ifI (aC d 4) (d.getD 2 0),ifI (aC d 4) (d.getD 3 0)] 1)).set 2 (c8 kd [ifI (aC d 4) (d.getD 0 0),ifI (aC d 4) (d.getD 1 0),ifI (aC d 4) (d.getD 2 0),ifI (aC d 4) (d.getD 3 0)] 2)).set 3 (c8 kd [ifI (aC d 4) (d.getD 0 0),ifI (aC d 4) (d.getD 1 0),ifI (aC d 4) (d.getD 2 0),ifI (aC d 4) (d.getD 3 0)] 3)).set 4 (c8 kd [ifI (aC d 4) (d.getD 0 0),ifI (aC d 4) (d.getD 1 0),ifI (aC d 4) (d.getD 2 0),ifI (aC d 4) (d.getD 3 0)] 4)).set 5 (c8 kd [ifI (aC d 4) (d.getD 0 0),ifI (aC d 4) (d.getD 1 0),ifI (aC d 4) (d.getD 2 0),ifI (aC d 4) (d.getD 3 0)] 5)).length)&&(decide (6<(↑b.length:Int))&&(decide (6<((((((b.set 0 vs).set 1 vs).set 2 vs).set 3 vs).set 4 vs).set 5 vs).length)&&(decide (6<(↑c.length:Int))&&(decide (6<((((((c.set 0 true).set 1 true).set 2 true).set 3 true).set 4 true).set 5 true).length)&&true)))))&&true))))))))&&((decide (d.length=d.length)&&(decide (d.length≤274877906944)&&(bet kd 1 2&&(fok (ifI (aC d 4) (d.getD 0 0))&&(fok (ifI (aC d 4) (d.getD 1 0))&&(fok (ifI (aC d 4) (d.getD 2 0))&&(fok (ifI (aC d 4) (d.getD 3 0))&&(decide (7<(↑a.length:Int))&&(decide (7<(((((((a.set 0 (c8 kd [ifI (aC d 4) (d.getD 0 0),ifI (aC d 4) (d.getD 1 0),ifI (aC d 4) (d.getD 2 0),ifI (aC d 4) (d.getD 3 0)] 0)).set 1 (c8 kd [ifI (aC d 4) (d.getD 0 0),ifI (aC d 4) (d.getD 1 0),ifI (aC d 4) (d.getD 2 0),ifI (aC d 4) (d.getD 3 0)] 1)).set 2 (c8 kd [ifI (aC d 4) (d.getD 0 0),ifI (aC d 4) (d.getD 1 0),ifI (aC d 4) (d.getD 2 0),ifI (aC d 4) (d.getD 3 0)] 2)).set 3 (c8 kd [ifI (aC d 4) (d.getD 0 0),ifI (aC d 4) (d.getD 1 0),ifI (aC d 4) (d.getD 2 0),ifI (aC d 4) (d.getD 3 0)] 3)).set 4 (c8 kd [ifI (aC d 4) (d.getD 0 0),ifI (aC d 4) (d.getD 1 0),ifI (aC d 4) (d.getD 2 0),ifI (aC d 4) (d.getD 3 0)] 4)).set 5 (c8 kd [ifI (aC d 4) (d.getD 0 0),ifI (aC d 4) (d.getD 1 0),ifI (aC d 4) (d.getD 2 0),ifI (aC d 4) (d.getD 3 0)] 5)).set 6 (c8 kd [ifI (aC d 4) (d.getD 0 0),ifI (aC d 4) (d.getD 1 0),ifI (aC d 4) (d.getD 2 0),ifI (aC d 4) (d.getD 3 0)] 6)).length)&&(decide (7<(↑b.length:Int))&&(decide (7<(((((((b.set 0 vs).set 1 vs).set 2 vs).set 3 vs).set 4 vs).set 5 vs).set 6 vs).length)&&(decide (7<(↑c.length:Int))&&(decide (7<(((((((c.set 0 true).set 1 true).set 2 true).set 3 true).set 4 true).set 5 true).set 6 true).length)&&true)))))&&true))))))))&&true))))))))))))))),[]⟩:=by kernel_rfl
def BQ:aQ:=fun args h=>
 match args,h with
 |[.agg [.int .i64 k,.view _ (.ints .i64 a) n1 1 _,.view _ (.ints .i64 b) n2 1 _,.view _ (.bools c) n3 1 _,.bool on,.int .i64 kd,.view _ (.ints .i64 d) n4 1 _,.int .i64 vs]],[]=>
  some (.agg (bU ⟨k,a,b,c,on,kd,d,vs⟩).cells,[.live (.ints .i64 (bU ⟨k,a,b,c,on,kd,d,vs⟩).a),.live (.ints .i64 (bU ⟨k,a,b,c,on,kd,d,vs⟩).b),.live (.bools (bU ⟨k,a,b,c,on,kd,d,vs⟩).c),.live (.ints .i64 (bU ⟨k,a,b,c,on,kd,d,vs⟩).d)],[decide (d.length≤274877906944)])
 |_,_=>none
theorem m16:aV Tryz.prog 21 BQ:=by
 intro args h res h' o hnorm he ho
 unfold BQ at he
 split at he
 case h_2=>cases he
 rename_i k nl1 a n1 cap1 nl2 b n2 cap2 nl3 c n3 cap3 on kd nl4 d n4 cap4 vs
 simp only[Option.some.injEq,Prod.mk.injEq]at he
 obtain⟨rfl,rfl,rfl⟩:=he
 simp only[List.mem_cons,List.not_mem_nil,or_false,forall_eq_or_imp,forall_eq,decide_eq_true_eq]at ho
 have o1:=ho
 simp only[bG,AV.norm,bI,aJ.norm,Con.size,List.cons.injEq,AV.c.injEq,AV.agg.injEq,aJ.view.injEq,aN,true_and,and_true]at hnorm
 obtain⟨⟨rfl,rfl,rfl⟩,⟨rfl,rfl,rfl⟩,⟨rfl,rfl,rfl⟩,rfl,rfl,rfl⟩:=hnorm
 unfold bU PK.ok
 dsimp only
 cases h:aO k a b c on kd d vs with
 |false=>exact wK (h:=[]) (a5 t44 (by kernel_rfl) (by kernel_rfl) (a16 k a b c on kd d vs) (by simp only[h,o1];rfl) (by simp) (fun cc _=>aF.nil))
 |true=>
  obtain⟨ha,hb,hc⟩:=dL h
  cases ho:on with
  |false=>subst ho;exact a5 t44 (by kernel_rfl) (by kernel_rfl) (a17 k a b c false kd d vs) (by simp[h,o1,ha,hb,hc]) (by simp) (fun cc _=>aF.nil)
  |true=>
   obtain⟨h1,h2,h3⟩:=CQ h ho
   have hf:=p8 h1
   subst ho
   have e:=a18 k a b c true kd d vs
   rw[FO ha,FO hb,FO hc]at e
   have mm:=a5 (f:=21) t44 (by kernel_rfl) (by kernel_rfl) e (by simp only[h,h1,h2,ifI,hf,List.length_set,ha,hb,hc,bS];simp;omega) (by simp) (fun cc _=>aF.nil)
   have:=mm.nil1 (es:=1) (c0:=.ints .i64 []) rfl rfl
   rw[ha,hb,hc]at this⊢
   exact this
def dG (x:PK) (at_:Int):PK:=bif x.ok&&bet at_ 0 7 then(bif x.on then⟨x.k,x.a.set at_.toNat ((hZ x.kd x.d).getD at_.toNat 0),x.b.set at_.toNat x.vs,x.c.set at_.toNat true,x.on,x.kd,x.d,x.vs⟩else x)else PK0
def pQ (x:PK) (at_:Int):Bool:=bif x.ok&&bet at_ 0 7 then x.on else false
theorem a1M (k:Int) (a b:List Int) (c:List Bool) (on:Bool) (kd:Int) (d:List Int) (vs:Int) (x:Int):aG tt (aB T44) ([]) 100 Tryz.f19 [.agg [.int .i64 k,.view none (.ints .i64 a) a.length 1 none,.view none (.ints .i64 b) b.length 1 none,.view none (.bools c) c.length 1 none,.bool on,.int .i64 kd,.view none (.ints .i64 d) d.length 1 none,.int .i64 vs],.c (.int .i64 x)] [] [(0,true)]=
  some ⟨.tup [.agg [.int .i64 0,.nils,.nils,.nils,.bool false,.int .i64 0,.nils,.int .i64 0],.c (.bool false)],[],(decide (d.length≤274877906944)&&(!aO k a b c on kd d vs&&(!aO k a b c on kd d vs&&(!aO k a b c on kd d vs&&((!aO k a b c on kd d vs)&&true))))),[]⟩:=by kernel_rfl
theorem a1N (k:Int) (a b:List Int) (c:List Bool) (on:Bool) (kd:Int) (d:List Int) (vs:Int) (x:Int):aG tt (aB T44) ([]) 100 Tryz.f19 [.agg [.int .i64 k,.view none (.ints .i64 a) a.length 1 none,.view none (.ints .i64 b) b.length 1 none,.view none (.bools c) c.length 1 none,.bool on,.int .i64 kd,.view none (.ints .i64 d) d.length 1 none,.int .i64 vs],.c (.int .i64 x)] [] [(0,false),(0,true)]=
  some ⟨.tup [.agg [.int .i64 0,.nils,.nils,.nils,.bool false,.int .i64 0,.nils,.int .i64 0],.c (.bool false)],[],(decide (d.length≤274877906944)&&(!!aO k a b c on kd d vs&&(!!aO k a b c on kd d vs&&(!!aO k a b c on kd d vs&&((bif !aO k a b c on kd d vs then true else !bet x 0 7)&&true))))),[]⟩:=by kernel_rfl
theorem a1O (k:Int) (a b:List Int) (c:List Bool) (on:Bool) (kd:Int) (d:List Int) (vs:Int) (x:Int):aG tt (aB T44) ([]) 100 Tryz.f19 [.agg [.int .i64 k,.view none (.ints .i64 a) a.length 1 none,.view none (.ints .i64 b) b.length 1 none,.view none (.bools c) c.length 1 none,.bool on,.int .i64 kd,.view none (.ints .i64 d) d.length 1 none,.int .i64 vs],.c (.int .i64 x)] [] [(0,false),(0,false),(0,true)]=
  some ⟨.tup [.agg [.int .i64 k,.sl 0 0 a.length 1 none,.sl 1 0 b.length 1 none,.sl 2 0 c.length 1 none,.bool on,.int .i64 kd,.sl 3 0 d.length 1 none,.int .i64 vs],.c (.bool on)],[.live (.ints .i64 (a.set x.toNat ((fJ kd [ifI (aC d 4) (d.getD 0 0),ifI (aC d 4) (d.getD 1 0),ifI (aC d 4) (d.getD 2 0),ifI (aC d 4) (d.getD 3 0)]).getD x.toNat 0))),.live (.ints .i64 (b.set x.toNat vs)),.live (.bools (c.set x.toNat true)),.live (.ints .i64 d)],(decide (d.length≤274877906944)&&(!!aO k a b c on kd d vs&&(!!aO k a b c on kd d vs&&(!!aO k a b c on kd d vs&&((!bif !aO k a b c on kd d vs then true else !bet x 0 7)&&(decide (a.length≤274877906944)&&(decide (b.length≤274877906944)&&(decide (c.length≤274877906944)&&(decide (d.length≤274877906944)&&((on)&&((decide (d.length=d.length)&&(decide (d.length≤274877906944)&&(bet kd 1 2&&(fok (ifI (aC d 4) (d.getD 0 0))&&(fok (ifI (aC d 4) (d.getD 1 0))&&(fok (ifI (aC d 4) (d.getD 2 0))&&(fok (ifI (aC d 4) (d.getD 3 0))&&(decide (0≤x)&&(decide (x<8)&&(decide (x.toNat<(fJ kd [ifI (aC d 4) (d.getD 0 0),ifI (aC d 4) (d.getD 1 0),ifI (aC d 4) (d.getD 2 0),ifI (aC d 4) (d.getD 3 0)]).length)&&(decide (0≤x)&&(decide (x<(↑a.length:Int))&&(decide (x.toNat<a.length)&&(decide (0≤x)&&(decide (x<(↑b.length:Int))&&(decide (x.toNat<b.length)&&(decide (0≤x)&&(decide (x<(↑c.length:Int))&&(decide (x.toNat<c.length)&&true))))))))&&true)))))))))))&&true))))))))))),[]⟩:=by kernel_rfl
theorem a1P (k:Int) (a b:List Int) (c:List Bool) (on:Bool) (kd:Int) (d:List Int) (vs:Int) (x:Int):aG tt (aB T44) ([]) 100 Tryz.f19 [.agg [.int .i64 k,.view none (.ints .i64 a) a.length 1 none,.view none (.ints .i64 b) b.length 1 none,.view none (.bools c) c.length 1 none,.bool on,.int .i64 kd,.view none (.ints .i64 d) d.length 1 none,.int .i64 vs],.c (.int .i64 x)] [] [(0,false),(0,false),(0,false)]=
  some ⟨.tup [.agg [.int .i64 k,.sl 0 0 a.length 1 none,.sl 1 0 b.length 1 none,.sl 2 0 c.length 1 none,.bool on,.int .i64 kd,.sl 3 0 d.length 1 none,.int .i64 vs],.c (.bool on)],[.live (.ints .i64 a),.live (.ints .i64 b),.live (.bools c),.live (.ints .i64 d)],(decide (d.length≤274877906944)&&(!!aO k a b c on kd d vs&&(!!aO k a b c on kd d vs&&(!!aO k a b c on kd d vs&&((!bif !aO k a b c on kd d vs then true else !bet x 0 7)&&(decide (a.length≤274877906944)&&(decide (b.length≤274877906944)&&(decide (c.length≤274877906944)&&(decide (d.length≤274877906944)&&((!on)&&true)))))))))),[]⟩:=by kernel_rfl
def x8:aQ:=fun args h=>
 match args,h with
 |[.agg [.int .i64 k,.view _ (.ints .i64 a) n1 1 _,.view _ (.ints .i64 b) n2 1 _,.view _ (.bools c) n3 1 _,.bool on,.int .i64 kd,.view _ (.ints .i64 d) n4 1 _,.int .i64 vs],.c (.int .i64 x)],[]=>
  some (.tup [.agg (dG ⟨k,a,b,c,on,kd,d,vs⟩ x).cells,.c (.bool (pQ ⟨k,a,b,c,on,kd,d,vs⟩ x))],[.live (.ints .i64 (dG ⟨k,a,b,c,on,kd,d,vs⟩ x).a),.live (.ints .i64 (dG ⟨k,a,b,c,on,kd,d,vs⟩ x).b),.live (.bools (dG ⟨k,a,b,c,on,kd,d,vs⟩ x).c),.live (.ints .i64 (dG ⟨k,a,b,c,on,kd,d,vs⟩ x).d)],[decide (d.length≤274877906944)])
 |_,_=>none
theorem m26:aV Tryz.prog 19 x8:=by
 intro args h res h' o hnorm he ho
 unfold x8 at he
 split at he
 case h_2=>cases he
 rename_i k nl1 a n1 cap1 nl2 b n2 cap2 nl3 c n3 cap3 on kd nl4 d n4 cap4 vs x
 simp only[Option.some.injEq,Prod.mk.injEq]at he
 obtain⟨rfl,rfl,rfl⟩:=he
 simp only[List.mem_cons,List.not_mem_nil,or_false,forall_eq_or_imp,forall_eq,decide_eq_true_eq]at ho
 have o1:=ho
 simp only[bG,AV.norm,bI,aJ.norm,Con.size,List.cons.injEq,AV.c.injEq,AV.agg.injEq,aJ.view.injEq,aN,true_and,and_true]at hnorm
 obtain⟨⟨rfl,rfl,rfl⟩,⟨rfl,rfl,rfl⟩,⟨rfl,rfl,rfl⟩,rfl,rfl,rfl⟩:=hnorm
 unfold dG pQ PK.ok
 dsimp only
 cases h:aO k a b c on kd d vs with
 |false=>exact gR (a5 t44 (by kernel_rfl) (by kernel_rfl) (a1M k a b c on kd d vs x) (by simp[h,o1]) (by simp) (fun cc _=>aF.nil))
 |true=>
  obtain⟨ha,hb,hc⟩:=dL h
  cases hx:bet x 0 7 with
  |false=>exact gR (a5 t44 (by kernel_rfl) (by kernel_rfl) (a1N k a b c on kd d vs x) (by simp[h,hx,o1]) (by simp) (fun cc _=>aF.nil))
  |true=>
   have hx':=b8.1 hx
   cases ho:on with
   |false=>subst ho;exact a5 t44 (by kernel_rfl) (by kernel_rfl) (a1P k a b c false kd d vs x) (by simp[h,hx,o1,ha,hb,hc]) (by simp) (fun cc _=>aF.nil)
   |true=>
    obtain⟨h1,h2,h3⟩:=CQ h ho
    have hf:=p8 h1
    subst ho
    have mm:=a5 (f:=19) t44 (by kernel_rfl) (by kernel_rfl) (a1O k a b c true kd d vs x) (by simp only[h,hx,h1,h2,ifI,hf,List.length_set,ha,hb,hc,fJ,List.length_cons,List.length_nil,bS];omega) (by simp) (fun cc _=>aF.nil)
    have e1:(a.set x.toNat ((hZ kd d).getD x.toNat 0)).length=a.length:=List.length_set
    have e2:(b.set x.toNat vs).length=b.length:=List.length_set
    have e3:(c.set x.toNat true).length=c.length:=List.length_set
    show bE _ _ _ _ (.tup [.agg [.int .i64 k,.sl 0 0 (a.set x.toNat ((hZ kd d).getD x.toNat 0)).length 1 none,.sl 1 0 (b.set x.toNat vs).length 1 none,.sl 2 0 (c.set x.toNat true).length 1 none,.bool true,.int .i64 kd,.sl 3 0 d.length 1 none,.int .i64 vs],.c (.bool true)]) _
    rw[e1,e2,e3]
    exact mm
end
section
def cS (x:PK) (kind:Int) (e:List Int):PK:=
 bif x.ok&&(bet kind 1 2&&aC e 4)then(bif x.on||(gE x.b x.c==99)then x else⟨x.k,x.a,x.b,x.c,true,kind,e,gE x.b x.c+1⟩)else PK0
def gV (x:PK) (kind:Int) (e:List Int):Bool:=bif x.ok&&(bet kind 1 2&&aC e 4)then !(x.on||(gE x.b x.c==99))else false
theorem a1W (k:Int) (a b:List Int) (c:List Bool) (on:Bool) (kd:Int) (d:List Int) (vs:Int) (x:Int) (e:List Int):aG tt (aB T44) ([]) 100 Tryz.f18 [.agg [.int .i64 k,.view none (.ints .i64 a) a.length 1 none,.view none (.ints .i64 b) b.length 1 none,.view none (.bools c) c.length 1 none,.bool on,.int .i64 kd,.view none (.ints .i64 d) d.length 1 none,.int .i64 vs],.c (.int .i64 x),.c (.view none (.ints .i64 e) e.length 1 none)] [] [(0,true)]=
  some ⟨.tup [.agg [.int .i64 0,.nils,.nils,.nils,.bool false,.int .i64 0,.nils,.int .i64 0],.c (.bool false)],[],(decide (d.length≤274877906944)&&(!aO k a b c on kd d vs&&(!aO k a b c on kd d vs&&(!aO k a b c on kd d vs&&((!aO k a b c on kd d vs)&&true))))),[]⟩:=by kernel_rfl
theorem a1X (k:Int) (a b:List Int) (c:List Bool) (on:Bool) (kd:Int) (d:List Int) (vs:Int) (x:Int) (e:List Int):aG tt (aB T44) ([]) 100 Tryz.f18 [.agg [.int .i64 k,.view none (.ints .i64 a) a.length 1 none,.view none (.ints .i64 b) b.length 1 none,.view none (.bools c) c.length 1 none,.bool on,.int .i64 kd,.view none (.ints .i64 d) d.length 1 none,.int .i64 vs],.c (.int .i64 x),.c (.view none (.ints .i64 e) e.length 1 none)] [] [(0,false),(0,true)]=
  some ⟨.tup [.agg [.int .i64 0,.nils,.nils,.nils,.bool false,.int .i64 0,.nils,.int .i64 0],.c (.bool false)],[],(decide (d.length≤274877906944)&&(!!aO k a b c on kd d vs&&(!!aO k a b c on kd d vs&&(!!aO k a b c on kd d vs&&((bif !aO k a b c on kd d vs then true else !bet x 1 2)&&((bif !aO k a b c on kd d vs then true else !bet x 1 2)&&((bif !aO k a b c on kd d vs then true else !bet x 1 2)&&((bif !aO k a b c on kd d vs then true else !bet x 1 2)&&true)))))))),[]⟩:=by kernel_rfl
theorem a1Y (k:Int) (a b:List Int) (c:List Bool) (on:Bool) (kd:Int) (d:List Int) (vs:Int) (x:Int) (e:List Int):aG tt (aB T44) ([]) 100 Tryz.f18 [.agg [.int .i64 k,.view none (.ints .i64 a) a.length 1 none,.view none (.ints .i64 b) b.length 1 none,.view none (.bools c) c.length 1 none,.bool on,.int .i64 kd,.view none (.ints .i64 d) d.length 1 none,.int .i64 vs],.c (.int .i64 x),.c (.view none (.ints .i64 e) e.length 1 none)] [] [(0,false),(0,false),(0,true)]=
  some ⟨.tup [.agg [.int .i64 0,.nils,.nils,.nils,.bool false,.int .i64 0,.nils,.int .i64 0],.c (.bool false)],[],(decide (d.length≤274877906944)&&(!!aO k a b c on kd d vs&&(!!aO k a b c on kd d vs&&(!!aO k a b c on kd d vs&&((!bif !aO k a b c on kd d vs then true else !bet x 1 2)&&((!bif !aO k a b c on kd d vs then true else !bet x 1 2)&&(decide (e.length≤274877906944)&&((!bif !aO k a b c on kd d vs then true else !bet x 1 2)&&((bif bif !aO k a b c on kd d vs then true else !bet x 1 2 then true else !aC e 4)&&true))))))))),[]⟩:=by kernel_rfl
theorem a1Z (k:Int) (a b:List Int) (c:List Bool) (on:Bool) (kd:Int) (d:List Int) (vs:Int) (x:Int) (e:List Int):aG tt (aB T44) ([]) 100 Tryz.f18 [.agg [.int .i64 k,.view none (.ints .i64 a) a.length 1 none,.view none (.ints .i64 b) b.length 1 none,.view none (.bools c) c.length 1 none,.bool on,.int .i64 kd,.view none (.ints .i64 d) d.length 1 none,.int .i64 vs],.c (.int .i64 x),.c (.view none (.ints .i64 e) e.length 1 none)] [] [(0,false),(0,false),(0,false),(0,true)]=
  some ⟨.tup [.agg [.int .i64 k,.sl 0 0 a.length 1 none,.sl 1 0 b.length 1 none,.sl 2 0 c.length 1 none,.bool on,.int .i64 kd,.sl 3 0 d.length 1 none,.int .i64 vs],.c (.bool false)],[.live (.ints .i64 a),.live (.ints .i64 b),.live (.bools c),.live (.ints .i64 d)],(decide (d.length≤274877906944)&&(!!aO k a b c on kd d vs&&(!!aO k a b c on kd d vs&&(!!aO k a b c on kd d vs&&((!bif !aO k a b c on kd d vs then true else !bet x 1 2)&&((!bif !aO k a b c on kd d vs then true else !bet x 1 2)&&(decide (e.length≤274877906944)&&((!bif !aO k a b c on kd d vs then true else !bet x 1 2)&&((!bif bif !aO k a b c on kd d vs then true else !bet x 1 2 then true else !aC e 4)&&(decide (a.length≤274877906944)&&(decide (b.length≤274877906944)&&(decide (c.length≤274877906944)&&(decide (d.length≤274877906944)&&((on)&&((on)&&((on)&&((on)&&((on)&&true)))))))))))))))))),[]⟩:=by kernel_rfl
theorem a20 (k:Int) (a b:List Int) (c:List Bool) (on:Bool) (kd:Int) (d:List Int) (vs:Int) (x:Int) (e:List Int):aG tt (aB T44) ([]) 100 Tryz.f18 [.agg [.int .i64 k,.view none (.ints .i64 a) a.length 1 none,.view none (.ints .i64 b) b.length 1 none,.view none (.bools c) c.length 1 none,.bool on,.int .i64 kd,.view none (.ints .i64 d) d.length 1 none,.int .i64 vs],.c (.int .i64 x),.c (.view none (.ints .i64 e) e.length 1 none)] [] [(0,false),(0,false),(0,false),(0,false),(0,true)]=
  some ⟨.tup [.agg [.int .i64 k,.sl 0 0 a.length 1 none,.sl 1 0 b.length 1 none,.sl 2 0 c.length 1 none,.bool on,.int .i64 kd,.sl 3 0 d.length 1 none,.int .i64 vs],.c (.bool false)],[.live (.ints .i64 a),.live (.ints .i64 b),.live (.bools c),.live (.ints .i64 d)],(decide (d.length≤274877906944)&&(!!aO k a b c on kd d vs&&(!!aO k a b c on kd d vs&&(!!aO k a b c on kd d vs&&((!bif !aO k a b c on kd d vs then true else !bet x 1 2)&&((!bif !aO k a b c on kd d vs then true else !bet x 1 2)&&(decide (e.length≤274877906944)&&((!bif !aO k a b c on kd d vs then true else !bet x 1 2)&&((!bif bif !aO k a b c on kd d vs then true else !bet x 1 2 then true else !aC e 4)&&(decide (a.length≤274877906944)&&(decide (b.length≤274877906944)&&(decide (c.length≤274877906944)&&(decide (d.length≤274877906944)&&((!on)&&((!on)&&((!on)&&(decide (c.length≤8)&&(decide (b.length=c.length)&&((!on)&&((bif on then true else gE b c==99)&&true)))))))))))))))))))),[]⟩:=by kernel_rfl
theorem a21 (k:Int) (a b:List Int) (c:List Bool) (on:Bool) (kd:Int) (d:List Int) (vs:Int) (x:Int) (e:List Int):aG tt (aB T44) ([]) 100 Tryz.f18 [.agg [.int .i64 k,.view none (.ints .i64 a) a.length 1 none,.view none (.ints .i64 b) b.length 1 none,.view none (.bools c) c.length 1 none,.bool on,.int .i64 kd,.view none (.ints .i64 d) d.length 1 none,.int .i64 vs],.c (.int .i64 x),.c (.view none (.ints .i64 e) e.length 1 none)] [] [(0,false),(0,false),(0,false),(0,false),(0,false)]=
  some ⟨.tup [.agg [.int .i64 k,.sl 0 0 a.length 1 none,.sl 1 0 b.length 1 none,.sl 2 0 c.length 1 none,.bool true,.int .i64 x,.sl 3 0 (↑e.length:Int).toNat 1 none,.int .i64 (IntKind.i64.wrap (gE b c+1))],.c (.bool true)],[.live (.ints .i64 a),.live (.ints .i64 b),.live (.bools c),.live (.ints .i64 e)],(decide (d.length≤274877906944)&&(!!aO k a b c on kd d vs&&(!!aO k a b c on kd d vs&&(!!aO k a b c on kd d vs&&((!bif !aO k a b c on kd d vs then true else !bet x 1 2)&&((!bif !aO k a b c on kd d vs then true else !bet x 1 2)&&(decide (e.length≤274877906944)&&((!bif !aO k a b c on kd d vs then true else !bet x 1 2)&&((!bif bif !aO k a b c on kd d vs then true else !bet x 1 2 then true else !aC e 4)&&(decide (a.length≤274877906944)&&(decide (b.length≤274877906944)&&(decide (c.length≤274877906944)&&(decide (d.length≤274877906944)&&((!on)&&((!on)&&((!on)&&(decide (c.length≤8)&&(decide (b.length=c.length)&&((!on)&&((!bif on then true else gE b c==99)&&(decide (e.length≤274877906944)&&((decide ((↑e.length:Int)≤(↑e.length:Int))&&(decide ((↑e.length:Int)≤(↑e.length:Int))&&true))&&(decide (c.length≤8)&&((decide (b.length=c.length))&&true)))))))))))))))))))))))),[]⟩:=by kernel_rfl
theorem gI {p:Int→Bool} (h0:p 0=true) {l:List Int} (h:l.all p=true) (i:Nat):p (l.getD i 0)=true:=by
 rw[List.getD_eq_getElem?_getD]
 cases hi:l[i]? with
 |none=>exact h0
 |some x=>exact List.all_eq_true.1 h _ (List.mem_of_getElem? hi)
theorem rK {p:Int→Bool} {l:List Int} {i:Nat} {x:Int} (h:l.all p=true) (hx:p x=true):(l.set i x).all p=true:=by
 rw[List.all_eq_true]at h⊢
 intro y hy
 rcases List.mem_or_eq_of_mem_set hy with h'|h'
 ·exact h y h'
 ·rw[h'];exact hx
theorem EN {p:Int→Bool} (h0:p 0=true) {b:List Int} (hb:b.all p=true) (c:List Bool):(bJ b c).all p=true:=by
 have h1:(cO b (flg c)).all p=true:=bH (step:=jZ b (flg c)) (fun _ o=>o.all p=true) _ [] rfl fun i o _ h=>by
  simp only[jZ,List.all_append,List.all_cons,List.all_nil,Bool.and_true,h,gI h0 hb,Bool.and_self]
 have swp_all: ∀(v:List Int) (j:Nat),v.all p=true→(swp v j).all p=true:=fun v j h=>rK (rK h (gI h0 h _)) (gI h0 h _)
 have h2:(cW (cO b (flg c))).all p=true:=bH (step:=fun t v=>kJ (t+1) v) (fun _ o=>o.all p=true) _ _ h1 fun i o _ h=>by
  have:=hS (step:=pB (i+1)) (fun _ b=>b.all p=true) (fun c=>c.all p=true) (i+1) 0 o h (fun k b _ _ hb=>by
   unfold pB
   cases decide (b.getD (i+1-k) 0<b.getD (i+1-k-1) 0)
   ·exact⟨fun b' h=>by simp at h,fun c h=>by simp at h;rw[←h];exact hb⟩
   ·exact⟨fun b' h=>by simp at h;rw[←h];exact swp_all _ _ hb,fun c h=>by simp at h⟩)
  show(kJ (i+1) o).all p=true
  unfold kJ
  revert this
  cases dO (pB (i+1)) (i+1) 0 o<;>exact fun h=>h
 have h3:(jL (cW (cO b (flg c)))).all p=true:=bH (step:=yC _) (fun _ o=>o.all p=true) _ _ h2 fun i o _ h=>rK (rK h (gI h0 h _)) (gI h0 h _)
 have h4: ∀(v:List Int) (n:Nat),v.all p=true→(eZ v n).all p=true:=fun v n hv=>by
  induction n with
  |zero=>rfl
  |succ n ih=>
   simp only[eZ]
   cases Nat.beq n 0||v.getD n 0 !=v.getD (n-1) 0
   ·exact ih
   ·simp only[cond_true,List.all_append,List.all_cons,List.all_nil,Bool.and_true,ih,gI h0 hv,Bool.and_self]
 exact h4 _ _ h3
theorem TW {a b:List Int} {c:List Bool} (h:cC (oB a b c) 8 0=true) (hb:b.length=8):(b.all fun x=>bet x 0 99)=true:=by
 rw[List.all_eq_true]
 intro x hx
 obtain⟨i,hi⟩:=List.getElem?_of_mem hx
 have hlt:=(List.getElem?_eq_some_iff.1 hi).1
 have:=bY.1 h i (by omega) (by omega)
 unfold oB at this
 have hg:b.getD i 0=x:=by rw[List.getD_eq_getElem?_getD,hi];rfl
 rw[hg]at this
 cases h1:c.getD i false with
 |true=>
  rw[h1,cond_true,Bool.and_eq_true,b8]at this
  exact b8.2 ⟨by omega,this.2.2⟩
 |false=>
  rw[h1,cond_false,Bool.and_eq_true,Bool.not_eq_true']at this
  have h2:x=0:=by simpa using this.2
  rw[h2];rfl
theorem FX {a b:List Int} {c:List Bool} (h:cC (oB a b c) 8 0=true) (hb:b.length=8) (hc:c.length=8):bet (gE b c) 0 99=true:=
 gI (p:=fun x=>bet x 0 99) rfl (EN (p:=fun x=>bet x 0 99) rfl (TW h hb) c) 0
def G3:aQ:=fun args h=>
 match args,h with
 |[.agg [.int .i64 k,.view _ (.ints .i64 a) n1 1 _,.view _ (.ints .i64 b) n2 1 _,.view _ (.bools c) n3 1 _,.bool on,.int .i64 kd,.view _ (.ints .i64 d) n4 1 _,.int .i64 vs],.c (.int .i64 x),.c (.view _ (.ints .i64 e) n5 1 _)],[]=>
  some (.tup [.agg (cS ⟨k,a,b,c,on,kd,d,vs⟩ x e).cells,.c (.bool (gV ⟨k,a,b,c,on,kd,d,vs⟩ x e))],[.live (.ints .i64 (cS ⟨k,a,b,c,on,kd,d,vs⟩ x e).a),.live (.ints .i64 (cS ⟨k,a,b,c,on,kd,d,vs⟩ x e).b),.live (.bools (cS ⟨k,a,b,c,on,kd,d,vs⟩ x e).c),.live (.ints .i64 (cS ⟨k,a,b,c,on,kd,d,vs⟩ x e).d)],[decide (d.length≤274877906944),decide (e.length≤274877906944)])
 |_,_=>none
theorem m36:aV Tryz.prog 18 G3:=by
 intro args h res h' o hnorm he ho
 unfold G3 at he
 split at he
 case h_2=>cases he
 rename_i k nl1 a n1 cap1 nl2 b n2 cap2 nl3 c n3 cap3 on kd nl4 d n4 cap4 vs x nl5 e n5 cap5
 simp only[Option.some.injEq,Prod.mk.injEq]at he
 obtain⟨rfl,rfl,rfl⟩:=he
 simp only[List.mem_cons,List.not_mem_nil,or_false,forall_eq_or_imp,forall_eq,decide_eq_true_eq]at ho
 obtain⟨o1,o2⟩:=ho
 simp only[bG,AV.norm,bI,aJ.norm,Con.size,List.cons.injEq,AV.c.injEq,AV.agg.injEq,aJ.view.injEq,aN,true_and,and_true]at hnorm
 obtain⟨⟨⟨rfl,rfl,rfl⟩,⟨rfl,rfl,rfl⟩,⟨rfl,rfl,rfl⟩,rfl,rfl,rfl⟩,rfl,rfl,rfl⟩:=hnorm
 unfold cS gV PK.ok
 dsimp only
 cases h:aO k a b c on kd d vs with
 |false=>exact gR (a5 t44 (by kernel_rfl) (by kernel_rfl) (a1W k a b c on kd d vs x e) (by simp[h,o1]) (by simp) (fun cc _=>aF.nil))
 |true=>
  obtain⟨ha,hb,hc⟩:=dL h
  cases hx:bet x 1 2 with
  |false=>exact gR (a5 t44 (by kernel_rfl) (by kernel_rfl) (a1X k a b c on kd d vs x e) (by simp[h,hx,o1]) (by simp) (fun cc _=>aF.nil))
  |true=>
   cases he:aC e 4 with
   |false=>exact gR (a5 t44 (by kernel_rfl) (by kernel_rfl) (a1Y k a b c on kd d vs x e) (by simp[h,hx,he,o1,o2]) (by simp) (fun cc _=>aF.nil))
   |true=>
    cases ho:on with
    |true=>
     subst ho
     exact a5 t44 (by kernel_rfl) (by kernel_rfl) (a1Z k a b c true kd d vs x e) (by simp[h,hx,he,o1,o2,ha,hb,hc]) (by simp) (fun cc _=>aF.nil)
    |false=>
     obtain⟨hs,-,-,-⟩:=E1 h ho
     subst ho
     simp only[bQ,Bool.and_eq_true]at hs
     have ht:=b8.1 (FX hs.2.2.1 hb hc)
     cases hT:gE b c==99 with
     |true=>exact a5 t44 (by kernel_rfl) (by kernel_rfl) (a20 k a b c false kd d vs x e) (by simp[h,hx,he,hT,o1,o2,ha,hb,hc]) (by simp) (fun cc _=>aF.nil)
     |false=>
      have e6:=a21 k a b c false kd d vs x e
      rw[aE (by omega) (by omega)]at e6
      exact a5 t44 (by kernel_rfl) (by kernel_rfl) e6 (by simp[h,hx,he,hT,o1,o2,ha,hb,hc]) (by simp) (fun cc _=>aF.nil)
def cE (x:PK) (at_:Int):PK:=⟨x.k,x.a.set at_.toNat 0,x.b.set at_.toNat 0,x.c.set at_.toNat false,x.on,x.kd,x.d,x.vs⟩
def fC (x:PK) (at_:Int):PK:=bif x.ok&&bet at_ 0 7 then(bif !rdS x.k (cE x at_).a (cE x at_).b (cE x at_).c&& !x.on then x else cE x at_)else PK0
noncomputable def T45:List bF:=[⟨20,[],nm wS⟩,⟨21,[],nm BQ⟩,⟨19,[],nm x8⟩,⟨18,[],nm G3⟩]++T44
theorem e45:a8 Tryz.prog T45:=by
 refine a8.append ?_ e44
 intro e he
 simp only[List.mem_cons,List.not_mem_nil,or_false]at he
 rcases he with rfl|rfl|rfl|rfl
 ·exact m20.ok
 ·exact m16.ok
 ·exact m26.ok
 ·exact m36.ok
theorem t45:bN Tryz.prog (aB T45):=aP e45
theorem a29 (k:Int) (a b:List Int) (c:List Bool) (on:Bool) (kd:Int) (d:List Int) (vs:Int) (x:Int):aG tt (aB T45) ([]) 100 Tryz.f89 [.agg [.int .i64 k,.view none (.ints .i64 a) a.length 1 none,.view none (.ints .i64 b) b.length 1 none,.view none (.bools c) c.length 1 none,.bool on,.int .i64 kd,.view none (.ints .i64 d) d.length 1 none,.int .i64 vs],.c (.int .i64 x)] [] [(0,true)]=
  some ⟨.tup [.agg [.int .i64 0,.nils,.nils,.nils,.bool false,.int .i64 0,.nils,.int .i64 0],.c (.bool false)],[],(decide (d.length≤274877906944)&&(!aO k a b c on kd d vs&&(!aO k a b c on kd d vs&&(!aO k a b c on kd d vs&&((!aO k a b c on kd d vs)&&true))))),[]⟩:=by kernel_rfl
theorem a2A (k:Int) (a b:List Int) (c:List Bool) (on:Bool) (kd:Int) (d:List Int) (vs:Int) (x:Int):aG tt (aB T45) ([]) 100 Tryz.f89 [.agg [.int .i64 k,.view none (.ints .i64 a) a.length 1 none,.view none (.ints .i64 b) b.length 1 none,.view none (.bools c) c.length 1 none,.bool on,.int .i64 kd,.view none (.ints .i64 d) d.length 1 none,.int .i64 vs],.c (.int .i64 x)] [] [(0,false),(0,true)]=
  some ⟨.tup [.agg [.int .i64 0,.nils,.nils,.nils,.bool false,.int .i64 0,.nils,.int .i64 0],.c (.bool false)],[],(decide (d.length≤274877906944)&&(!!aO k a b c on kd d vs&&(!!aO k a b c on kd d vs&&(!!aO k a b c on kd d vs&&((bif !aO k a b c on kd d vs then true else !bet x 1 2)&&true))))),[]⟩:=by kernel_rfl
theorem a2B (k:Int) (a b:List Int) (c:List Bool) (on:Bool) (kd:Int) (d:List Int) (vs:Int) (x:Int):aG tt (aB T45) ([]) 100 Tryz.f89 [.agg [.int .i64 k,.view none (.ints .i64 a) a.length 1 none,.view none (.ints .i64 b) b.length 1 none,.view none (.bools c) c.length 1 none,.bool on,.int .i64 kd,.view none (.ints .i64 d) d.length 1 none,.int .i64 vs],.c (.int .i64 x)] [] [(0,false),(0,false),(0,true)]=
  some ⟨.tup [.agg [.int .i64 k,.sl 0 0 a.length 1 none,.sl 1 0 b.length 1 none,.sl 2 0 c.length 1 none,.bool on,.int .i64 kd,.sl 3 0 d.length 1 none,.int .i64 vs],.c (.bool false)],[.live (.ints .i64 a),.live (.ints .i64 b),.live (.bools c),.live (.ints .i64 d)],(decide (d.length≤274877906944)&&(!!aO k a b c on kd d vs&&(!!aO k a b c on kd d vs&&(!!aO k a b c on kd d vs&&((!bif !aO k a b c on kd d vs then true else !bet x 1 2)&&((k==x)&&(decide (a.length≤274877906944)&&(decide (b.length≤274877906944)&&(decide (c.length≤274877906944)&&((decide (d.length≤274877906944))&&true)))))))))),[]⟩:=by kernel_rfl
theorem a2C (k:Int) (a b:List Int) (c:List Bool) (on:Bool) (kd:Int) (d:List Int) (vs:Int) (x:Int):aG tt (aB T45) ([]) 100 Tryz.f89 [.agg [.int .i64 k,.view none (.ints .i64 a) a.length 1 none,.view none (.ints .i64 b) b.length 1 none,.view none (.bools c) c.length 1 none,.bool on,.int .i64 kd,.view none (.ints .i64 d) d.length 1 none,.int .i64 vs],.c (.int .i64 x)] [] [(0,false),(0,false),(0,false)]=
  some ⟨.tup [.agg [.int .i64 (cS {k:=k,a:=a,b:=b,c:=c,on:=on,kd:=kd,d:=d,vs:=vs} x (krD k a b c on kd d vs)).k,.sl 0 0 (cS {k:=k,a:=a,b:=b,c:=c,on:=on,kd:=kd,d:=d,vs:=vs} x (krD k a b c on kd d vs)).a.length 1 none,.sl 1 0 (cS {k:=k,a:=a,b:=b,c:=c,on:=on,kd:=kd,d:=d,vs:=vs} x (krD k a b c on kd d vs)).b.length 1 none,.sl 2 0 (cS {k:=k,a:=a,b:=b,c:=c,on:=on,kd:=kd,d:=d,vs:=vs} x (krD k a b c on kd d vs)).c.length 1 none,.bool (cS {k:=k,a:=a,b:=b,c:=c,on:=on,kd:=kd,d:=d,vs:=vs} x (krD k a b c on kd d vs)).on,.int .i64 (cS {k:=k,a:=a,b:=b,c:=c,on:=on,kd:=kd,d:=d,vs:=vs} x (krD k a b c on kd d vs)).kd,.sl 3 0 (cS {k:=k,a:=a,b:=b,c:=c,on:=on,kd:=kd,d:=d,vs:=vs} x (krD k a b c on kd d vs)).d.length 1 none,.int .i64 (cS {k:=k,a:=a,b:=b,c:=c,on:=on,kd:=kd,d:=d,vs:=vs} x (krD k a b c on kd d vs)).vs],.c (.bool (gV {k:=k,a:=a,b:=b,c:=c,on:=on,kd:=kd,d:=d,vs:=vs} x (krD k a b c on kd d vs)))],[.live (.ints .i64 (cS {k:=k,a:=a,b:=b,c:=c,on:=on,kd:=kd,d:=d,vs:=vs} x (krD k a b c on kd d vs)).a),.live (.ints .i64 (cS {k:=k,a:=a,b:=b,c:=c,on:=on,kd:=kd,d:=d,vs:=vs} x (krD k a b c on kd d vs)).b),.live (.bools (cS {k:=k,a:=a,b:=b,c:=c,on:=on,kd:=kd,d:=d,vs:=vs} x (krD k a b c on kd d vs)).c),.live (.ints .i64 (cS {k:=k,a:=a,b:=b,c:=c,on:=on,kd:=kd,d:=d,vs:=vs} x (krD k a b c on kd d vs)).d)],(decide (d.length≤274877906944)&&(!!aO k a b c on kd d vs&&(!!aO k a b c on kd d vs&&(!!aO k a b c on kd d vs&&((!bif !aO k a b c on kd d vs then true else !bet x 1 2)&&((!k==x)&&(decide (d.length≤274877906944)&&(decide ((krD k a b c on kd d vs).length=(krD k a b c on kd d vs).length)&&(decide (d.length≤274877906944)&&((decide ((krD k a b c on kd d vs).length≤274877906944))&&true)))))))))),[]⟩:=by kernel_rfl
def tbK (x:PK) (kind:Int):PK:=bif x.ok&&bet kind 1 2 then(bif x.k==kind then x else cS x kind (krD x.k x.a x.b x.c x.on x.kd x.d x.vs))else PK0
def tbB (x:PK) (kind:Int):Bool:=bif x.ok&&bet kind 1 2 then(bif x.k==kind then false else gV x kind (krD x.k x.a x.b x.c x.on x.kd x.d x.vs))else false
theorem NK (k:Int) (w v:List Int):(rdX k w v).length≤4:=by
 unfold rdX
 cases rdB k w v<;>simp[j7]
theorem NI (k:Int) (a b:List Int) (c:List Bool):(rdD k a b c).length≤4:=by
 unfold rdD
 split
 ·exact NK _ _ _
 ·simp
theorem xZ (k:Int) (a b:List Int) (c:List Bool) (on:Bool) (kd:Int) (d:List Int) (vs:Int) (hd:d.length≤274877906944):(krD k a b c on kd d vs).length≤274877906944:=by
 unfold krD
 have:=NI k a b c
 cases aO k a b c on kd d vs
 ·simp
 ·cases on
  ·simp only[cond_true,cond_false];omega
  ·exact hd
def PW:aQ:=fun args h=>
 match args,h with
 |[.agg [.int .i64 k,.view _ (.ints .i64 a) n1 1 _,.view _ (.ints .i64 b) n2 1 _,.view _ (.bools c) n3 1 _,.bool on,.int .i64 kd,.view _ (.ints .i64 d) n4 1 _,.int .i64 vs],.c (.int .i64 x)],[]=>
  some (.tup [.agg (tbK ⟨k,a,b,c,on,kd,d,vs⟩ x).cells,.c (.bool (tbB ⟨k,a,b,c,on,kd,d,vs⟩ x))],[.live (.ints .i64 (tbK ⟨k,a,b,c,on,kd,d,vs⟩ x).a),.live (.ints .i64 (tbK ⟨k,a,b,c,on,kd,d,vs⟩ x).b),.live (.bools (tbK ⟨k,a,b,c,on,kd,d,vs⟩ x).c),.live (.ints .i64 (tbK ⟨k,a,b,c,on,kd,d,vs⟩ x).d)],[decide (d.length≤274877906944)])
 |_,_=>none
theorem m42:aV Tryz.prog 89 PW:=by
 intro args h res h' o hnorm he ho
 unfold PW at he
 split at he
 case h_2=>cases he
 rename_i k nl1 a n1 cap1 nl2 b n2 cap2 nl3 c n3 cap3 on kd nl4 d n4 cap4 vs x
 simp only[Option.some.injEq,Prod.mk.injEq]at he
 obtain⟨rfl,rfl,rfl⟩:=he
 simp only[List.mem_cons,List.not_mem_nil,or_false,forall_eq_or_imp,forall_eq,decide_eq_true_eq]at ho
 have o1:=ho
 simp only[bG,AV.norm,bI,aJ.norm,Con.size,List.cons.injEq,AV.c.injEq,AV.agg.injEq,aJ.view.injEq,aN,true_and,and_true]at hnorm
 obtain⟨⟨rfl,rfl,rfl⟩,⟨rfl,rfl,rfl⟩,⟨rfl,rfl,rfl⟩,rfl,rfl,rfl⟩:=hnorm
 unfold tbK tbB PK.ok
 dsimp only
 cases h:aO k a b c on kd d vs with
 |false=>exact gR (a5 t45 (by kernel_rfl) (by kernel_rfl) (a29 k a b c on kd d vs x) (by simp[h,o1]) (by simp) (fun cc _=>aF.nil))
 |true=>
  obtain⟨ha,hb,hc⟩:=dL h
  cases hx:bet x 1 2 with
  |false=>exact gR (a5 t45 (by kernel_rfl) (by kernel_rfl) (a2A k a b c on kd d vs x) (by simp[h,hx,o1]) (by simp) (fun cc _=>aF.nil))
  |true=>
   cases hk:k==x with
   |true=>exact a5 t45 (by kernel_rfl) (by kernel_rfl) (a2B k a b c on kd d vs x) (by simp only[h,hx,hk,o1,ha,hb,hc,bS];simp) (by simp) (fun cc _=>aF.nil)
   |false=>
    have:=xZ k a b c on kd d vs o1
    exact a5 t45 (by kernel_rfl) (by kernel_rfl) (a2C k a b c on kd d vs x) (by simp only[h,hx,hk,o1,this,bS]) (by simp) (fun cc _=>aF.nil)
end
section
theorem cX.froz (m t id:Nat) {s:St} {len es:Nat} {cap:Option Nat} {c:Con} (h1:s.tmps.getD t (.tup [])=.c (.sl id 0 len es cap)) (h2:Heap.get s.heap id=.live c) (hf:c.free=true) (hz:len*es=c.size):
  cX m s ⟨s.tmps.set t (.c (.view none c len es cap)),s.heap.set id .dead⟩:=fun X w0 ρ0 ρ a w h0 r=>by
 obtain⟨mo,m2⟩:=r.mem.kill (id:=id) (by rw[h2];simp)
 refine⟨upd ρ id .dead,⟨by simpa using r.size,fun u hu=> ?_,m2,r.defers,r.mono.trans mo.toB,r.ids.trans mo.ids⟩⟩
 simp only[List.length_set]at hu
 dsimp only
 by_cases e:u=t
 ·subst e
  have hx:=r.tmps u hu
  rw[h1]at hx
  have:(s.tmps.set u (.c (.view none c len es cap))).getD u (.tup [])=.c (.view none c len es cap):=by
   rw[List.getD_eq_getElem?_getD,List.getElem?_set_self hu];rfl
  rw[this]
  generalize a.tmps.getD u undef=v at hx⊢
  cases hx with
  |c x v hx=>
   refine .c _ _ ?_
   have nl: ∀b,ρ id=.row b→ ¬(bL (upd ρ id .dead) b∨X b):=by
    rintro b hb (⟨j,hj⟩|hxb)
    ·by_cases ej:j=id
     ·subst ej;rw[bC]at hj;cases hj
     ·rw[bK _ _ ej]at hj;exact ej (r.mem.inj j id b hj hb)
    ·exact r.mem.notX hb hxb
   rcases d7 r.mem h2 hx with⟨b,k,ty,n,hb,rfl,⟨cs,ty',hrow,hsz,hcs⟩,hsh,hn,hl',hcap⟩|⟨ad,rfl,rfl,hcap⟩
   ·rw[Nat.zero_mul]
    refine .view none c len es cap b 0 k (fun q=>cs.getD q undef) (fun _ h=>nl b hb h) (fun q hq=> ?_) (fun q hq=> ?_) hz hl' hcap (fun _ h=>by cases h)
    ·have hq':q<cs.size:=by omega
     simp[World.cell?,hrow,Array.getD,hq']
    ·exact CR0.mono (mo.toB.or X) ((hcs q hq).free (eT hf q)) (cF.noIds _)
   ·exact .viewNone none c es cap ad 0 (by omega) hcap (fun _ h=>by cases h) (fun _=>rfl)
 ·have:(s.tmps.set t (.c (.view none c len es cap))).getD u (.tup [])=s.tmps.getD u (.tup []):=by
   rw[List.getD_eq_getElem?_getD,List.getElem?_set_ne (fun h=>e h.symm),←List.getD_eq_getElem?_getD]
  rw[this]
  exact(r.tmps u hu).mono mo
end
section
theorem AM (v w:List Int):(uA v w).length=v.length:=pG _ _ _
theorem gD (v:List Int) (c:Int):(eE v c).length=v.length:=pG _ _ _
theorem pF {f:Nat→Int} (h: ∀i,fok (f i)=true): ∀k i,a9 (hG f k i)=true
 |0,_=>rfl
 |k+1,i=>by simp only[hG,a9,List.all_cons,h,Bool.true_and];exact pF h k (i+1)
theorem K9 (v w:List Int):a9 (uA v w)=true:=pF (fun i=>c9 _) _ _
theorem mR (v:List Int) (c:Int):a9 (eE v c)=true:=pF (fun i=>c9 _) _ _
def BY:aQ:=fun args h=>
 match args,h with
 |[.c (.view _ (.ints .i64 v) n 1 _),.c (.view _ (.ints .i64 w) n2 1 _)],[]=>
  some (.c (.view none (.ints .i64 (uA v w)) v.length 1 none),[],[decide (v.length≤274877906944),decide (v.length≤w.length),a9 v,a9 w])
 |_,_=>none
theorem Y4:aV Tryz.prog 218 BY:=by
 intro args h res h' o hnorm he ho
 unfold BY at he
 split at he
 case h_2=>cases he
 rename_i nl v n cap nl2 w n2 cap2
 simp only[Option.some.injEq,Prod.mk.injEq]at he
 obtain⟨rfl,rfl,rfl⟩:=he
 simp only[List.mem_cons,List.not_mem_nil,or_false,forall_eq_or_imp,forall_eq,decide_eq_true_eq]at ho
 obtain⟨o1,o2,o3,o4⟩:=ho
 simp only[bG,AV.norm,bI,aJ.norm,Con.size,List.cons.injEq,AV.c.injEq,AV.agg.injEq,aJ.view.injEq,aN,true_and,and_true]at hnorm
 obtain⟨⟨rfl,rfl,rfl⟩,rfl,rfl,rfl⟩:=hnorm
 exact(Y3 t5 [.c (.view none (.ints .i64 v) v.length 1 none),.c (.view none (.ints .i64 w) w.length 1 none)] [] _ _ _ rfl (by simp[o1,o2,o3,o4])).views (o:=[decide (v.length=(uA v w).length)]) rfl (by simp[AM])
def s6:aQ:=fun args h=>
 match args,h with
 |[.c (.view _ (.ints .i64 v) n 1 _),.c (.int .i64 c)],[]=>
  some (.c (.view none (.ints .i64 (eE v c)) v.length 1 none),[],[decide (v.length≤274877906944),a9 v,fok c])
 |_,_=>none
theorem Y1:aV Tryz.prog 194 s6:=by
 intro args h res h' o hnorm he ho
 unfold s6 at he
 split at he
 case h_2=>cases he
 rename_i nl v n cap c
 simp only[Option.some.injEq,Prod.mk.injEq]at he
 obtain⟨rfl,rfl,rfl⟩:=he
 simp only[List.mem_cons,List.not_mem_nil,or_false,forall_eq_or_imp,forall_eq,decide_eq_true_eq]at ho
 obtain⟨o1,o2,o3⟩:=ho
 simp only[bG,AV.norm,bI,aJ.norm,Con.size,List.cons.injEq,AV.c.injEq,AV.agg.injEq,aJ.view.injEq,aN,true_and,and_true]at hnorm
 obtain⟨rfl,rfl,rfl⟩:=hnorm
 exact(RF t5 [.c (.view none (.ints .i64 v) v.length 1 none),.c (.int .i64 c)] [] _ _ _ rfl (by simp[o1,o2,o3])).views (o:=[decide (v.length=(eE v c).length)]) rfl (by simp[gD])
noncomputable def T46:List bF:=[⟨89,[],nm PW⟩,⟨218,[],nm BY⟩,⟨194,[],nm s6⟩]++T45
theorem e46:a8 Tryz.prog T46:=by
 refine a8.append ?_ e45
 intro e he
 simp only[List.mem_cons,List.not_mem_nil,or_false]at he
 rcases he with rfl|rfl|rfl
 ·exact m42.ok
 ·exact Y4.ok
 ·exact Y1.ok
theorem t46:bN Tryz.prog (aB T46):=aP e46
theorem V0 (v w:List Int):aG tt (aB T46) ([]) 100 Tryz.f193 [.c (.view none (.ints .i64 v) v.length 1 none),.c (.view none (.ints .i64 w) w.length 1 none)] [] []=
  some ⟨.c (.view none (.ints .i64 (uA v (eE w ((IntKind.i64.wrap (31-(IntKind.i64.wrap (v.getD (bD w).toNat 0*inv (w.getD (bD w).toNat 0))).tmod 31)).tmod 31)))) v.length 1 none),[],(decide (w.length≤274877906944)&&(decide (0≤bD w)&&(decide (bD w<(↑v.length:Int))&&(decide ((bD w).toNat<v.length)&&(decide (0≤bD w)&&(decide (bD w<(↑w.length:Int))&&(decide ((bD w).toNat<w.length)&&(fok (w.getD (bD w).toNat 0)&&(decide (w.length≤274877906944)&&(a9 w&&(fok ((IntKind.i64.wrap (31-(IntKind.i64.wrap (v.getD (bD w).toNat 0*inv (w.getD (bD w).toNat 0))).tmod 31)).tmod 31)&&(decide (v.length≤274877906944)&&(decide (v.length≤(eE w ((IntKind.i64.wrap (31-(IntKind.i64.wrap (v.getD (bD w).toNat 0*inv (w.getD (bD w).toNat 0))).tmod 31)).tmod 31)).length)&&(a9 v&&((a9 (eE w ((IntKind.i64.wrap (31-(IntKind.i64.wrap (v.getD (bD w).toNat 0*inv (w.getD (bD w).toNat 0))).tmod 31)).tmod 31)))&&true))))))))))))))),[]⟩:=by kernel_rfl
def nlC (v w:List Int):Int:=(31-v.getD (bD w).toNat 0*inv (w.getD (bD w).toNat 0)%31)%31
def nlL (v w:List Int):List Int:=uA v (eE w (nlC v w))
theorem pD {v:List Int}: ∀(f i j:Nat),fW v f i=some j→i≤j∧j<i+f
 |0,i,j,h=>by simp[fW]at h
 |f+1,i,j,h=>by
  simp only[fW]at h
  split at h
  ·have:=pD f (i+1) j h;omega
  ·injection h with h;omega
theorem JD (w:List Int):bD w<w.length∨w=[]:=by
 by_cases hw:w=[]
 ·exact .inr hw
 ·refine .inl ?_
  have h0:0<w.length:=List.length_pos_iff.2 hw
  unfold bD
  cases h:kK w with
  |none=>dsimp only;omega
  |some j=>
   have:=pD w.length 0 j h
   dsimp only;omega
theorem MA {v w:List Int} (hv:a9 v=true):(IntKind.i64.wrap (31-(IntKind.i64.wrap (v.getD (bD w).toNat 0*inv (w.getD (bD w).toNat 0))).tmod 31)).tmod 31=nlC v w:=by
 have hf:=aR hv (bD w).toNat
 have hi:=rO (w.getD (bD w).toNat 0)
 obtain⟨m1,m2⟩:=l9 hf hi
 rw[oO hf hi,nT m1,dQ (by omega) (by omega),nT (by omega)];rfl
def wW:aQ:=fun args h=>
 match args,h with
 |[.c (.view _ (.ints .i64 v) n 1 _),.c (.view _ (.ints .i64 w) n2 1 _)],[]=>
  some (.c (.view none (.ints .i64 (nlL v w)) v.length 1 none),[],[decide (v.length≤274877906944),decide (v.length=w.length),a9 v,a9 w,decide (0≤bD w)])
 |_,_=>none
theorem a7B:aV Tryz.prog 193 wW:=by
 intro args h res h' o hnorm he ho
 unfold wW at he
 split at he
 case h_2=>cases he
 rename_i nl v n cap nl2 w n2 cap2
 simp only[Option.some.injEq,Prod.mk.injEq]at he
 obtain⟨rfl,rfl,rfl⟩:=he
 simp only[List.mem_cons,List.not_mem_nil,or_false,forall_eq_or_imp,forall_eq,decide_eq_true_eq]at ho
 obtain⟨o1,o2,o3,o4,o5⟩:=ho
 simp only[bG,AV.norm,bI,aJ.norm,Con.size,List.cons.injEq,AV.c.injEq,AV.agg.injEq,aJ.view.injEq,aN,true_and,and_true]at hnorm
 obtain⟨⟨rfl,rfl,rfl⟩,rfl,rfl,rfl⟩:=hnorm
 have hl:=JD w
 have hl':bD w<w.length:=by
  rcases hl with h|h
  ·exact h
  ·subst h;simp[bD,kK,fW]at o5
 have e:=V0 v w
 rw[MA o3]at e
 exact a5 t46 (by kernel_rfl) (by kernel_rfl) e (by
  have hc:fok (nlC v w)=true:=c9 _
  simp only[aR o4,hc,o3,o4,mR,gD,Bool.true_and,Bool.and_true,Bool.and_eq_true,decide_eq_true_eq,true_and,and_true]
  omega) (by simp) (fun cc _=>aF.nil)
noncomputable def T47:List bF:=[⟨193,[],nm wW⟩]++T46
theorem e47:a8 Tryz.prog T47:=by
 refine a8.append ?_ e46
 intro e he
 simp only[List.mem_cons,List.not_mem_nil,or_false]at he
 subst he;exact a7B.ok
theorem t47:bN Tryz.prog (aB T47):=aP e47
noncomputable abbrev f153:=Tryz.f189
theorem lA (v w:List Int):(nlL v w).length=v.length:=AM _ _
theorem rP (v w:List Int):a9 (nlL v w)=true:=K9 _ _
noncomputable def mW (ti:List (List Int)) (v:List Int) (n:Nat) (i:Int):St:=
 bA f153.ntmps [(0,.c (.view none (.ivs .i64 ti) ti.length 1 none)),(1,.c (.view none (.ints .i64 v) n 1 none)),(5,.c (.int .i64 i))] []
noncomputable def EK (ti:List (List Int)) (v:List Int) (n:Nat):St:=
 bA f153.ntmps [(0,.c (.view none (.ivs .i64 ti) ti.length 1 none)),(1,.c (.view none (.ints .i64 v) n 1 none))] []
theorem SO (ti:List (List Int)) (v:List Int) (n:Nat) (i:Int):aH 0 (aA f153 0) (aD f153 0) (aK tt (aB T47) ([]) 0 100 (a6 0 (a7 f153)) (mW ti v n i) [(0,true)])=
  some (.normal,(decide (i<(↑ti.length:Int))&&(decide (0≤i)&&(decide (i<(↑ti.length:Int))&&(decide (i.toNat<ti.length)&&(decide (v.length≤274877906944)&&(decide (v.length=(ti.getD i.toNat []).length)&&(a9 v&&(a9 (ti.getD i.toNat [])&&((decide (0≤bD (ti.getD i.toNat [])))&&true))))))))),[],mW ti (nlL v (ti.getD i.toNat [])) (v.length) (IntKind.i64.wrap (i+1))):=by kernel_rfl
theorem SP (ti:List (List Int)) (v:List Int) (n:Nat) (i:Int):aH 0 (aA f153 0) (aD f153 0) (aK tt (aB T47) ([]) 0 100 (a6 0 (a7 f153)) (mW ti v n i) [(0,false)])=
  some (.exit 0,((!decide (i<(↑ti.length:Int)))&&true),[],EK ti (v) (n)):=by kernel_rfl
noncomputable def mA (ti:List (List Int)) (v:List Int) (n:Nat) (ld:Int) (m:Nat) (out:List (List Int)) (put:Bool) (i:Int):St:=
 bA f153.ntmps [(0,.c (.view none (.ivs .i64 ti) ti.length 1 none)),(1,.c (.view none (.ints .i64 v) n 1 none)),(6,.c (.int .i64 ld)),(7,.c (.sl 0 0 m 1 none)),(8,.c (.bool put)),(9,.c (.int .i64 i))] [.live (.ivs .i64 out)]
noncomputable def HC (v:List Int) (n m:Nat) (out:List (List Int)) (put:Bool):St:=
 bA f153.ntmps [(1,.c (.view none (.ints .i64 v) n 1 none)),(7,.c (.sl 0 0 m 1 none)),(8,.c (.bool put))] [.live (.ivs .i64 out)]
theorem NB (ti:List (List Int)) (v:List Int) (n:Nat) (ld:Int) (m:Nat) (out:List (List Int)) (put:Bool) (i:Int):aH 0 (aA f153 2) (aD f153 2) (aK tt (aB T47) ([]) 0 100 (a6 2 (a7 f153)) (mA ti v n ld m out put i) [(0,true),(0,true),(0,true)])=
  some (.normal,(decide (i<(↑ti.length:Int))&&((!put)&&((!put)&&((!put)&&(decide (0≤i)&&(decide (i<(↑ti.length:Int))&&((!put)&&(decide (i.toNat<ti.length)&&((!put)&&(decide ((ti.getD i.toNat []).length≤274877906944)&&((!put)&&((!put)&&((bif !put then decide (bD (ti.getD i.toNat [])>ld)else false)&&(decide (m=out.length)&&(decide (m+1≤274877906944)&&(decide (0≤i)&&(decide (i<(↑ti.length:Int))&&(decide (i.toNat<ti.length)&&(decide ((ti.getD i.toNat []).length≤274877906944)&&(decide ((ti.getD i.toNat []).length=v.length)&&(a9 (ti.getD i.toNat [])&&(a9 v&&(decide (0≤bD v)&&(decide (m+1=(out++[v]).length)&&((decide (m+1+1≤274877906944))&&true))))))))))))))))))))))))),[],mA ti v n ld (m+1+1) (out++[v]++[nlL (ti.getD i.toNat []) v]) (true) (IntKind.i64.wrap (i+1))):=by kernel_rfl
theorem NC (ti:List (List Int)) (v:List Int) (n:Nat) (ld:Int) (m:Nat) (out:List (List Int)) (put:Bool) (i:Int):aH 0 (aA f153 2) (aD f153 2) (aK tt (aB T47) ([]) 0 100 (a6 2 (a7 f153)) (mA ti v n ld m out put i) [(0,true),(0,true),(0,false)])=
  some (.normal,(decide (i<(↑ti.length:Int))&&((!put)&&((!put)&&((!put)&&(decide (0≤i)&&(decide (i<(↑ti.length:Int))&&((!put)&&(decide (i.toNat<ti.length)&&((!put)&&(decide ((ti.getD i.toNat []).length≤274877906944)&&((!put)&&((!put)&&((!bif !put then decide (bD (ti.getD i.toNat [])>ld)else false)&&(decide (0≤i)&&(decide (i<(↑ti.length:Int))&&(decide (i.toNat<ti.length)&&(decide ((ti.getD i.toNat []).length≤274877906944)&&(decide ((ti.getD i.toNat []).length=v.length)&&(a9 (ti.getD i.toNat [])&&(a9 v&&(decide (0≤bD v)&&(decide (m=out.length)&&((decide (m+1≤274877906944))&&true))))))))))))))))))))))),[],mA ti v n ld (m+1) (out++[nlL (ti.getD i.toNat []) v]) (put) (IntKind.i64.wrap (i+1))):=by kernel_rfl
theorem ND (ti:List (List Int)) (v:List Int) (n:Nat) (ld:Int) (m:Nat) (out:List (List Int)) (put:Bool) (i:Int):aH 0 (aA f153 2) (aD f153 2) (aK tt (aB T47) ([]) 0 100 (a6 2 (a7 f153)) (mA ti v n ld m out put i) [(0,true),(0,false)])=
  some (.normal,(decide (i<(↑ti.length:Int))&&((!!put)&&((!!put)&&((!!put)&&((!!put)&&((!!put)&&((!!put)&&((!!put)&&((!!put)&&(decide (0≤i)&&(decide (i<(↑ti.length:Int))&&(decide (i.toNat<ti.length)&&(decide ((ti.getD i.toNat []).length≤274877906944)&&(decide ((ti.getD i.toNat []).length=v.length)&&(a9 (ti.getD i.toNat [])&&(a9 v&&(decide (0≤bD v)&&(decide (m=out.length)&&((decide (m+1≤274877906944))&&true))))))))))))))))))),[],mA ti v n ld (m+1) (out++[nlL (ti.getD i.toNat []) v]) (put) (IntKind.i64.wrap (i+1))):=by kernel_rfl
theorem NE (ti:List (List Int)) (v:List Int) (n:Nat) (ld:Int) (m:Nat) (out:List (List Int)) (put:Bool) (i:Int):aH 0 (aA f153 2) (aD f153 2) (aK tt (aB T47) ([]) 0 100 (a6 2 (a7 f153)) (mA ti v n ld m out put i) [(0,false)])=
  some (.exit 2,((!decide (i<(↑ti.length:Int)))&&true),[],HC v n (m) (out) (put)):=by kernel_rfl
end
end Go.Proofs.YthapjdpkelihiaaGreat.Am
