/- DERIVED. Part 6 of the proof: C34, C35, C36, C37, C38, C39, Am32, C41, C42, C43. No statement of the program is proved here. -/
import Derived.Test.YthapjdpkelihiaaGreatX05
set_option linter.unusedSimpArgs false
set_option linter.unusedVariables false
set_option linter.unusedSectionVars false
namespace Go.Proofs.YthapjdpkelihiaaGreat.Am
section
def AW:aN:=fun args h=>
 match args,h with
 |[.c (.sl 0 0 n 1 none),.c (.fn 134 [.ptr 1 0 0 0])],[.live (.ints .i64 v),.live (.cells [.int .i64 k,.view nl1 (.ints .i64 a) n1 1 cap1,.view nl2 (.ints .i64 b) n2 1 cap2,.view nl3 (.bools c) n3 1 cap3])]=>
  some (.c (.int .i64 (cR (fun x=> !cE k a (ofL b c x)) v)),[.live (.ints .i64 v),.live (.cells [.int .i64 k,.view nl1 (.ints .i64 a) n1 1 cap1,.view nl2 (.ints .i64 b) n2 1 cap2,.view nl3 (.bools c) n3 1 cap3])],[decide (v.length≤274877906944),decide (v.length=n),decide (c.length=8),decide (b.length=8),bet k 1 2,decide (a.length=8),a7 a])
 |_,_=>none
theorem O5 (k:Int) (n1 n2 n3:Nat) (nl1 nl2 nl3:Option Bool) (cap1 cap2 cap3:Option Nat) (a b:List Int) (c:List Bool) (v:List Int):aD tt (a9 T37) ([(0,⟨a8 eW 0,jJ k n1 n2 n3 nl1 nl2 nl3 cap1 cap2 cap3 a b c v 0,.normal,GO k n1 n2 n3 nl1 nl2 nl3 cap1 cap2 cap3 a b c v⟩)]) 100 eW [.c (.sl 0 0 v.length 1 none),.c (.fn 134 [.ptr 1 0 0 0])] [.live (.ints .i64 v),.live (.cells [.int .i64 k,.view nl1 (.ints .i64 a) n1 1 cap1,.view nl2 (.ints .i64 b) n2 1 cap2,.view nl3 (.bools c) n3 1 cap3])] []=
  some ⟨.c (.int .i64 (-1)),[.live (.ints .i64 v),.live (.cells [.int .i64 k,.view nl1 (.ints .i64 a) n1 1 cap1,.view nl2 (.ints .i64 b) n2 1 cap2,.view nl3 (.bools c) n3 1 cap3])],true,[jJ k n1 n2 n3 nl1 nl2 nl3 cap1 cap2 cap3 a b c v 0=jJ k n1 n2 n3 nl1 nl2 nl3 cap1 cap2 cap3 a b c v 0]⟩:=by kernel_rfl
theorem O6 (k:Int) (n1 n2 n3:Nat) (nl1 nl2 nl3:Option Bool) (cap1 cap2 cap3:Option Nat) (a b:List Int) (c:List Bool) (v:List Int) (j:Nat):aD tt (a9 T37) ([(0,⟨a8 eW 0,jJ k n1 n2 n3 nl1 nl2 nl3 cap1 cap2 cap3 a b c v 0,.ret,GU k n1 n2 n3 nl1 nl2 nl3 cap1 cap2 cap3 a b c v j⟩)]) 100 eW [.c (.sl 0 0 v.length 1 none),.c (.fn 134 [.ptr 1 0 0 0])] [.live (.ints .i64 v),.live (.cells [.int .i64 k,.view nl1 (.ints .i64 a) n1 1 cap1,.view nl2 (.ints .i64 b) n2 1 cap2,.view nl3 (.bools c) n3 1 cap3])] []=
  some ⟨.c (.int .i64 (↑j:Int)),[.live (.ints .i64 v),.live (.cells [.int .i64 k,.view nl1 (.ints .i64 a) n1 1 cap1,.view nl2 (.ints .i64 b) n2 1 cap2,.view nl3 (.bools c) n3 1 cap3])],true,[jJ k n1 n2 n3 nl1 nl2 nl3 cap1 cap2 cap3 a b c v 0=jJ k n1 n2 n3 nl1 nl2 nl3 cap1 cap2 cap3 a b c v 0]⟩:=by kernel_rfl
theorem XA:aP Tryz.prog 176 AW:=by
 intro args h res h' o he ho
 unfold AW at he
 split at he
 case h_2=>cases he
 rename_i n v k nl1 a n1 cap1 nl2 b n2 cap2 nl3 c n3 cap3
 simp only[Option.some.injEq,Prod.mk.injEq]at he
 obtain⟨rfl,rfl,rfl⟩:=he
 simp only[List.mem_cons,List.not_mem_nil,or_false,forall_eq_or_imp,forall_eq,decide_eq_true_eq]at ho
 obtain⟨o1,o2,o3,o4,o5,o6,o7⟩:=ho
 subst o2
 have g:=WO k n1 n2 n3 nl1 nl2 nl3 cap1 cap2 cap3 a b c v o1 (by omega) (by omega) o5 o6 o7 (fun i hi=>⟨(kE o3).2,(kE o3).1,A7 o5 o3⟩)
 unfold cR
 cases hx:dQ (fun x=> !cE k a (ofL b c x)) v with
 |none=>
  rw[hx]at g
  exact mo (fn:=eW) t37 (O5 k n1 n2 n3 nl1 nl2 nl3 cap1 cap2 cap3 a b c v) rfl (hlc:=(fun cc hc=>aI.cons (c:=cc) (by cases hc;kernel_rfl) (by cases hc;exact g) aI.nil))
 |some j=>
  rw[hx]at g
  exact mo (fn:=eW) t37 (O6 k n1 n2 n3 nl1 nl2 nl3 cap1 cap2 cap3 a b c v j) rfl (hlc:=(fun cc hc=>aI.cons (c:=cc) (by cases hc;kernel_rfl) (by cases hc;exact g) aI.nil))
noncomputable def T38:List bD:=[⟨176,[0,1],AW⟩]++T37
theorem e38:a6 Tryz.prog T38:=by
 refine a6.append ?_ e37
 intro e he
 simp only[List.mem_cons,List.not_mem_nil,or_false]at he
 subst he;exact XA
theorem t38:bJ Tryz.prog (a9 T38):=aM e38
theorem NV (k:Int) (n1 n2 n3:Nat) (nl1 nl2 nl3:Option Bool) (cap1 cap2 cap3:Option Nat) (a b:List Int) (c:List Bool) (v:List Int):aD tt (a9 T38) ([]) 100 Tryz.f133 [.c (.sl 0 0 v.length 1 none),.c (.fn 134 [.ptr 1 0 0 0])] [.live (.ints .i64 v),.live (.cells [.int .i64 k,.view nl1 (.ints .i64 a) n1 1 cap1,.view nl2 (.ints .i64 b) n2 1 cap2,.view nl3 (.bools c) n3 1 cap3])] []=
  some ⟨.c (.bool (decide (cR (fun x=> !cE k a (ofL b c x)) v≥0))),[.live (.ints .i64 v),.live (.cells [.int .i64 k,.view nl1 (.ints .i64 a) n1 1 cap1,.view nl2 (.ints .i64 b) n2 1 cap2,.view nl3 (.bools c) n3 1 cap3])],(decide (v.length≤274877906944)&&(decide (v.length=v.length)&&(decide (c.length=8)&&(decide (b.length=8)&&(bet k 1 2&&(decide (a.length=8)&&((a7 a)&&true))))))),[]⟩:=by kernel_rfl
theorem HS (q:Int→Bool) (v:List Int):decide (cR (fun x=> !q x) v≥0)= !v.all q:=by
 unfold cR
 cases h:dQ (fun x=> !q x) v with
 |none=>
  have:=j8 h
  have ha:v.all q=true:=by
   rw[List.all_eq_true]
   intro x hx
   obtain⟨i,hi⟩:=List.getElem?_of_mem hx
   have hlt:=(List.getElem?_eq_some_iff.1 hi).1
   have h1:=this i (by omega) (by omega)
   rw[List.getD_eq_getElem?_getD,hi]at h1
   simpa using h1
  rw[ha];decide
 |some j=>
  obtain⟨h1,h2,h3,h4⟩:=mB h
  have ha:v.all q=false:=by
   rw[List.all_eq_false]
   refine⟨v.getD j 0, ?_,by simpa using h3⟩
   rw[List.getD_eq_getElem?_getD,List.getElem?_eq_getElem (by omega)]
   exact List.getElem_mem _
  rw[ha]
  dsimp only
  simp
def AO:aN:=fun args h=>
 match args,h with
 |[.c (.sl 0 0 n 1 none),.c (.fn 134 [.ptr 1 0 0 0])],[.live (.ints .i64 v),.live (.cells [.int .i64 k,.view nl1 (.ints .i64 a) n1 1 cap1,.view nl2 (.ints .i64 b) n2 1 cap2,.view nl3 (.bools c) n3 1 cap3])]=>
  some (.c (.bool (!v.all fun x=>cE k a (ofL b c x))),[.live (.ints .i64 v),.live (.cells [.int .i64 k,.view nl1 (.ints .i64 a) n1 1 cap1,.view nl2 (.ints .i64 b) n2 1 cap2,.view nl3 (.bools c) n3 1 cap3])],[decide (v.length≤274877906944),decide (v.length=n),decide (c.length=8),decide (b.length=8),bet k 1 2,decide (a.length=8),a7 a])
 |_,_=>none
theorem X6:aP Tryz.prog 133 AO:=by
 intro args h res h' o he ho
 unfold AO at he
 split at he
 case h_2=>cases he
 rename_i n v k nl1 a n1 cap1 nl2 b n2 cap2 nl3 c n3 cap3
 simp only[Option.some.injEq,Prod.mk.injEq]at he
 obtain⟨rfl,rfl,rfl⟩:=he
 simp only[List.mem_cons,List.not_mem_nil,or_false,forall_eq_or_imp,forall_eq,decide_eq_true_eq]at ho
 obtain⟨o1,o2,o3,o4,o5,o6,o7⟩:=ho
 subst o2
 have e:=NV k n1 n2 n3 nl1 nl2 nl3 cap1 cap2 cap3 a b c v
 rw[HS (fun x=>cE k a (ofL b c x))]at e
 exact mo t38 e (by simp[o1,o3,o4,o5,o6,o7])
noncomputable def T39:List bD:=[⟨133,[0,1],AO⟩]++T38
theorem e39:a6 Tryz.prog T39:=by
 refine a6.append ?_ e38
 intro e he
 simp only[List.mem_cons,List.not_mem_nil,or_false]at he
 subst he;exact X6
theorem t39:bJ Tryz.prog (a9 T39):=aM e39
noncomputable abbrev f72:=Tryz.f83
end
section
noncomputable def I72 (k:Int) (a b:List Int) (c:List Bool) (i:Int):St:=
  aY f72.ntmps [(1,.c (.ptr 0 0 0 0)),(15,.c (.view none (.bools c) c.length 1 none)),(16,.c (.int .i64 c.length)),(17,.c (.int .i64 i))]
   [.live (.cells [.int .i64 k,.view none (.ints .i64 a) a.length 1 none,.view none (.ints .i64 b) b.length 1 none,.view none (.bools c) c.length 1 none])]
noncomputable def X72 (k:Int) (a b:List Int) (c:List Bool):St:=
  aY f72.ntmps [(1,.c (.ptr 0 0 0 0))]
   [.live (.cells [.int .i64 k,.view none (.ints .i64 a) a.length 1 none,.view none (.ints .i64 b) b.length 1 none,.view none (.bools c) c.length 1 none])]
noncomputable def Y72 (k:Int) (a b:List Int) (c:List Bool):St:=
  aY f72.ntmps [(1,.c (.ptr 0 0 0 0)),(2,.c (.bool false))]
   [.live (.cells [.int .i64 k,.view none (.ints .i64 a) a.length 1 none,.view none (.ints .i64 b) b.length 1 none,.view none (.bools c) c.length 1 none])]
theorem Z8 (k:Int) (a b:List Int) (c:List Bool) (i:Int):aC 0 (a8 f72 0) (aA f72 0) (aG tt (a9 T39) ([]) 0 100 (a0 0 (a5 f72)) (I72 k a b c i) [(0,true),(0,true),(0,true),(0,true)])=
  some (.ret,(decide (i<(↑c.length:Int))&&(decide (0≤i)&&(decide (i<(↑c.length:Int))&&(decide (i.toNat<c.length)&&(rp4 (c.getD i.toNat false) (decide (0≤i)&&(decide (i<(↑a.length:Int))&&((c.getD i.toNat false)&&(decide (i.toNat<a.length)&&(rp3 (c.getD i.toNat false) (rp7 (!fok (a.getD i.toNat 0)) ((c.getD i.toNat false)&&(!fok (a.getD i.toNat 0)&&(rp5 (bif c.getD i.toNat false then true else false) true)))))))))))))),[],Y72 k a b c):=by kernel_rfl
theorem Z9 (k:Int) (a b:List Int) (c:List Bool) (i:Int):aC 0 (a8 f72 0) (aA f72 0) (aG tt (a9 T39) ([]) 0 100 (a0 0 (a5 f72)) (I72 k a b c i) [(0,true),(0,true),(0,false),(0,true)])=
  some (.ret,(decide (i<(↑c.length:Int))&&(decide (0≤i)&&(decide (i<(↑c.length:Int))&&(decide (i.toNat<c.length)&&(rp4 (c.getD i.toNat false) (decide (0≤i)&&(decide (i<(↑a.length:Int))&&((c.getD i.toNat false)&&(decide (i.toNat<a.length)&&(rp3 (c.getD i.toNat false) (rp4 (!!fok (a.getD i.toNat 0)) (decide (0≤i)&&(decide (i<(↑b.length:Int))&&(!!fok (a.getD i.toNat 0)&&(decide (i.toNat<b.length)&&(rp2 (!!fok (a.getD i.toNat 0)) ((c.getD i.toNat false)&&(rp5 (bif c.getD i.toNat false then bif !fok (a.getD i.toNat 0)then true else !bet (b.getD i.toNat 0) 1 99 else false) true)))))))))))))))))),[],Y72 k a b c):=by kernel_rfl
theorem ZA (k:Int) (a b:List Int) (c:List Bool) (i:Int):aC 0 (a8 f72 0) (aA f72 0) (aG tt (a9 T39) ([]) 0 100 (a0 0 (a5 f72)) (I72 k a b c i) [(0,true),(0,true),(0,false),(0,false),(0,false),(0,false)])=
  some (.normal,(decide (i<(↑c.length:Int))&&(decide (0≤i)&&(decide (i<(↑c.length:Int))&&(decide (i.toNat<c.length)&&(rp4 (c.getD i.toNat false) (decide (0≤i)&&(decide (i<(↑a.length:Int))&&((c.getD i.toNat false)&&(decide (i.toNat<a.length)&&(rp3 (c.getD i.toNat false) (rp4 (!!fok (a.getD i.toNat 0)) (decide (0≤i)&&(decide (i<(↑b.length:Int))&&(!!fok (a.getD i.toNat 0)&&(decide (i.toNat<b.length)&&(rp2 (!!fok (a.getD i.toNat 0)) ((c.getD i.toNat false)&&(rp3 (!bif c.getD i.toNat false then bif !fok (a.getD i.toNat 0)then true else !bet (b.getD i.toNat 0) 1 99 else false) (rp8 (!!c.getD i.toNat false) ((!bif c.getD i.toNat false then bif !fok (a.getD i.toNat 0)then true else !bet (b.getD i.toNat 0) 1 99 else false)&&((!!c.getD i.toNat false)&&((!bif bif c.getD i.toNat false then bif !fok (a.getD i.toNat 0)then true else !bet (b.getD i.toNat 0) 1 99 else false then true else false)&&true)))))))))))))))))))))),[],I72 k a b c (IntKind.i64.wrap (i+1))):=by kernel_rfl
theorem ZB (k:Int) (a b:List Int) (c:List Bool) (i:Int):aC 0 (a8 f72 0) (aA f72 0) (aG tt (a9 T39) ([]) 0 100 (a0 0 (a5 f72)) (I72 k a b c i) [(0,true),(0,false),(1,true),(0,true),(0,true)])=
  some (.ret,(decide (i<(↑c.length:Int))&&(decide (0≤i)&&(decide (i<(↑c.length:Int))&&(decide (i.toNat<c.length)&&(rp5 (!c.getD i.toNat false) (rp9 (!c.getD i.toNat false) (decide (0≤i)&&(decide (i<(↑a.length:Int))&&((!c.getD i.toNat false)&&(decide (i.toNat<a.length)&&(rp2 (!c.getD i.toNat false) (rp6 (a.getD i.toNat 0 !=0) ((!c.getD i.toNat false)&&((a.getD i.toNat 0 !=0)&&((bif !c.getD i.toNat false then true else false)&&true))))))))))))))),[],Y72 k a b c):=by kernel_rfl
theorem ZC (k:Int) (a b:List Int) (c:List Bool) (i:Int):aC 0 (a8 f72 0) (aA f72 0) (aG tt (a9 T39) ([]) 0 100 (a0 0 (a5 f72)) (I72 k a b c i) [(0,true),(0,false),(1,true),(0,false),(0,true)])=
  some (.ret,(decide (i<(↑c.length:Int))&&(decide (0≤i)&&(decide (i<(↑c.length:Int))&&(decide (i.toNat<c.length)&&(rp5 (!c.getD i.toNat false) (rp9 (!c.getD i.toNat false) (decide (0≤i)&&(decide (i<(↑a.length:Int))&&((!c.getD i.toNat false)&&(decide (i.toNat<a.length)&&(rp2 (!c.getD i.toNat false) (rp4 (!a.getD i.toNat 0 !=0) (decide (0≤i)&&(decide (i<(↑b.length:Int))&&((!a.getD i.toNat 0 !=0)&&(decide (i.toNat<b.length)&&((!a.getD i.toNat 0 !=0)&&((!c.getD i.toNat false)&&((bif !c.getD i.toNat false then bif a.getD i.toNat 0 !=0 then true else b.getD i.toNat 0 !=0 else false)&&true))))))))))))))))))),[],Y72 k a b c):=by kernel_rfl
theorem ZD (k:Int) (a b:List Int) (c:List Bool) (i:Int):aC 0 (a8 f72 0) (aA f72 0) (aG tt (a9 T39) ([]) 0 100 (a0 0 (a5 f72)) (I72 k a b c i) [(0,true),(0,false),(1,true),(0,false),(0,false)])=
  some (.normal,(decide (i<(↑c.length:Int))&&(decide (0≤i)&&(decide (i<(↑c.length:Int))&&(decide (i.toNat<c.length)&&(rp5 (!c.getD i.toNat false) (rp9 (!c.getD i.toNat false) (decide (0≤i)&&(decide (i<(↑a.length:Int))&&((!c.getD i.toNat false)&&(decide (i.toNat<a.length)&&(rp2 (!c.getD i.toNat false) (rp4 (!a.getD i.toNat 0 !=0) (decide (0≤i)&&(decide (i<(↑b.length:Int))&&((!a.getD i.toNat 0 !=0)&&(decide (i.toNat<b.length)&&((!a.getD i.toNat 0 !=0)&&((!c.getD i.toNat false)&&((!bif !c.getD i.toNat false then bif a.getD i.toNat 0 !=0 then true else b.getD i.toNat 0 !=0 else false)&&true))))))))))))))))))),[],I72 k a b c (IntKind.i64.wrap (i+1))):=by kernel_rfl
theorem ZE (k:Int) (a b:List Int) (c:List Bool) (i:Int):aC 0 (a8 f72 0) (aA f72 0) (aG tt (a9 T39) ([]) 0 100 (a0 0 (a5 f72)) (I72 k a b c i) [(0,false)])=
  some (.exit 0,((!decide (i<(↑c.length:Int)))&&true),[],X72 k a b c):=by kernel_rfl
def nU (a b:List Int) (c:List Bool) (i:Nat):Bool:=bif c.getD i false then fok (a.getD i 0)&&bet (b.getD i 0) 1 99 else !(a.getD i 0 !=0)&& !(b.getD i 0 !=0)
theorem l72 (k:Int) (a b:List Int) (c:List Bool) (ha:a.length=8) (hb:b.length=8) (hc:c.length=8):
  aS Tryz.prog 0 (.block 0 (.loop (a0 0 (a5 f72)))) (I72 k a b c 0) fun e t=>e=(bif c9 (nU a b c) 8 0 then .normal else .ret)∧t=bif c9 (nU a b c) 8 0 then X72 k a b c else Y72 k a b c:=by
 refine aS.all hT t39 bK 8 (nU a b c) (fun i=>I72 k a b c i) (X72 k a b c) (Y72 k a b c) .ret (.inr rfl) (a8 f72 0) (aA f72 0) (fun _=>[]) (fun _ _=>aI.nil) (fun i hi h=> ?_) (fun i hi h=> ?_)
  ⟨_,_,⟨_,_,ZE k a b c (8:Nat),by rw[hc];rfl,by simp⟩⟩
 ·unfold nU at h
  cases h1:c.getD i false with
  |true=>
   rw[h1,cond_true,Bool.and_eq_true]at h
   obtain⟨h2,h3⟩:=h
   have e:=ZA k a b c i
   rw[aB (by omega) (by omega),Int.toNat_natCast]at e
   refine⟨_,_,⟨_,_,e, ?_,by simp⟩⟩
   simp only[h1,h2,h3,Bool.not_true,Bool.not_false,cond_true,cond_false,Bool.true_and,rpS,Bool.and_true,Bool.and_eq_true,decide_eq_true_eq,true_and,and_true]
   omega
  |false=>
   rw[h1,cond_false,Bool.and_eq_true,Bool.not_eq_true',Bool.not_eq_true']at h
   obtain⟨h2,h3⟩:=h
   have e:=ZD k a b c i
   rw[aB (by omega) (by omega),Int.toNat_natCast]at e
   refine⟨_,_,⟨_,_,e, ?_,by simp⟩⟩
   simp only[h1,h2,h3,Bool.not_true,Bool.not_false,cond_true,cond_false,Bool.true_and,rpS,Bool.and_true,Bool.and_eq_true,decide_eq_true_eq,true_and,and_true]
   omega
 ·unfold nU at h
  rw[if_neg (by intro h;cases h)]
  cases h1:c.getD i false with
  |true=>
   rw[h1,cond_true]at h
   cases h2:fok (a.getD i 0)with
   |false=>
    have e:=Z8 k a b c i
    rw[Int.toNat_natCast]at e
    refine⟨_,_,⟨_,_,e, ?_,by simp⟩⟩
    simp only[h1,h2,Bool.not_true,Bool.not_false,cond_true,cond_false,Bool.true_and,rpS,Bool.and_true,Bool.and_eq_true,decide_eq_true_eq,true_and,and_true]
    omega
   |true=>
    rw[h2,Bool.true_and]at h
    have e:=Z9 k a b c i
    rw[Int.toNat_natCast]at e
    refine⟨_,_,⟨_,_,e, ?_,by simp⟩⟩
    simp only[h1,h2,h,Bool.not_true,Bool.not_false,cond_true,cond_false,Bool.true_and,rpS,Bool.and_true,Bool.and_eq_true,decide_eq_true_eq,true_and,and_true]
    omega
  |false=>
   rw[h1,cond_false]at h
   cases h2:a.getD i 0 !=0 with
   |true=>
    have e:=ZB k a b c i
    rw[Int.toNat_natCast]at e
    refine⟨_,_,⟨_,_,e, ?_,by simp⟩⟩
    simp only[h1,h2,Bool.not_true,Bool.not_false,cond_true,cond_false,Bool.true_and,rpS,Bool.and_true,Bool.and_eq_true,decide_eq_true_eq,true_and,and_true]
    omega
   |false=>
    rw[h2,Bool.not_false,Bool.true_and,Bool.not_eq_false']at h
    have e:=ZC k a b c i
    rw[Int.toNat_natCast]at e
    refine⟨_,_,⟨_,_,e, ?_,by simp⟩⟩
    simp only[h1,h2,h,Bool.not_true,Bool.not_false,cond_true,cond_false,Bool.true_and,rpS,Bool.and_true,Bool.and_eq_true,decide_eq_true_eq,true_and,and_true]
    omega
theorem A4 {a b:List Int} {c:List Bool} (ha:a.length=8) (h:c9 (nU a b c) 8 0=true):a7 a=true:=by
 have key: ∀i,i<8→fok (a.getD i 0)=true:=fun i hi=>by
  have:=bX.1 h i (by omega) (by omega)
  unfold nU at this
  cases h1:c.getD i false with
  |true=>rw[h1,cond_true,Bool.and_eq_true]at this;exact this.1
  |false=>
   rw[h1,cond_false,Bool.and_eq_true,Bool.not_eq_true']at this
   have h2:a.getD i 0=0:=by simpa using this.1
   rw[h2];rfl
 simp only[a7,List.all_eq_true]
 intro x hx
 obtain⟨i,hi⟩:=List.getElem?_of_mem hx
 have hlt:=(List.getElem?_eq_some_iff.1 hi).1
 have:=key i (by omega)
 rw[List.getD_eq_getElem?_getD,hi]at this
 simpa using this
theorem VE (k:Int) (a b:List Int) (c:List Bool):aD tt (a9 T39) ([(0,⟨a8 f72 0,I72 k a b c 0,.normal,X72 k a b c⟩)]) 100 f72 [.agg [.int .i64 k,.view none (.ints .i64 a) a.length 1 none,.view none (.ints .i64 b) b.length 1 none,.view none (.bools c) c.length 1 none]] [] [(0,false),(0,false)]=
  some ⟨.c (.bool !!(bI b c).all fun x=>cE k a (ofL b c x)),[],(rp3 (!!bet k 1 2) ((!bif !bet k 1 2 then true else !cX a b c)&&(decide (c.length≤8)&&(decide (b.length=c.length)&&(decide ((bI b c).length≤274877906944)&&(decide ((bI b c).length=(bI b c).length)&&(decide (c.length=8)&&(decide (b.length=8)&&(bet k 1 2&&(decide (a.length=8)&&((a7 a)&&true))))))))))),[I72 k a b c 0=I72 k a b c 0]⟩:=by kernel_rfl
theorem VF (k:Int) (a b:List Int) (c:List Bool):aD tt (a9 T39) ([(0,⟨a8 f72 0,I72 k a b c 0,.ret,Y72 k a b c⟩)]) 100 f72 [.agg [.int .i64 k,.view none (.ints .i64 a) a.length 1 none,.view none (.ints .i64 b) b.length 1 none,.view none (.bools c) c.length 1 none]] [] [(0,false),(0,false)]=
  some ⟨.c (.bool false),[],(rp3 (!!bet k 1 2) ((!bif !bet k 1 2 then true else !cX a b c)&&true)),[I72 k a b c 0=I72 k a b c 0]⟩:=by kernel_rfl
theorem VG (k:Int) (a b:List Int) (c:List Bool):aD tt (a9 T39) ([]) 100 f72 [.agg [.int .i64 k,.view none (.ints .i64 a) a.length 1 none,.view none (.ints .i64 b) b.length 1 none,.view none (.bools c) c.length 1 none]] [] [(0,true)]=
  some ⟨.c (.bool false),[],(rp3 (!bet k 1 2) ((!bet k 1 2)&&true)),[]⟩:=by kernel_rfl
theorem VH (k:Int) (a b:List Int) (c:List Bool):aD tt (a9 T39) ([]) 100 f72 [.agg [.int .i64 k,.view none (.ints .i64 a) a.length 1 none,.view none (.ints .i64 b) b.length 1 none,.view none (.bools c) c.length 1 none]] [] [(0,false),(0,true)]=
  some ⟨.c (.bool false),[],(rp3 (!!bet k 1 2) ((bif !bet k 1 2 then true else !cX a b c)&&true)),[]⟩:=by kernel_rfl
theorem uZ (v:List Int): ∀n,(eS v n).length≤n
 |0=>by simp[eS]
 |n+1=>by
  have:=uZ v n
  simp only[eS]
  cases Nat.beq n 0||v.getD n 0 !=v.getD (n-1) 0
  ·rw[cond_false];omega
  ·rw[cond_true,List.length_append,List.length_singleton];omega
theorem w5 (b:List Int) (c:List Bool):(bI b c).length≤c.length:=by
 have h:=uZ (jC (cS (cM b (flg c)))) (jC (cS (cM b (flg c)))).length
 rw[tF,pJ,pN]at h
 have:=n7 c
 unfold bI jK
 rw[tF,pJ,pN]
 omega
def bU (k:Int) (a b:List Int) (c:List Bool):Bool:=bet k 1 2&&(cX a b c&&(c9 (nU a b c) 8 0&&(bI b c).all fun x=>cE k a (ofL b c x)))
theorem fG {a b:List Int} {c:List Bool}:cX a b c=true↔a.length=8∧b.length=8∧c.length=8:=by
 simp only[cX,Bool.and_eq_true,rpS,beq_iff_eq];omega
def GC:aN:=fun args h=>
 match args,h with
 |[.agg [.int .i64 k,.view _ (.ints .i64 a) n1 1 _,.view _ (.ints .i64 b) n2 1 _,.view _ (.bools c) n3 1 _]],[]=>
  some (.c (.bool (bU k a b c)),[],[])
 |_,_=>none
theorem m72:aT Tryz.prog 83 GC:=by
 intro args h res h' o hnorm he ho
 unfold GC at he
 split at he
 case h_2=>cases he
 rename_i k nl1 a n1 cap1 nl2 b n2 cap2 nl3 c n3 cap3
 simp only[Option.some.injEq,Prod.mk.injEq]at he
 obtain⟨rfl,rfl,rfl⟩:=he
 simp only[bE,AV.norm,bF,aF.norm,Con.size,List.cons.injEq,AV.c.injEq,AV.agg.injEq,aF.view.injEq,aL,true_and,and_true]at hnorm
 obtain⟨⟨rfl,rfl,rfl⟩,⟨rfl,rfl,rfl⟩,rfl,rfl,rfl⟩:=hnorm
 unfold bU
 cases h1:bet k 1 2 with
 |false=>exact mo t39 (VG k a b c) (by rw[h1];rfl)
 |true=>
  cases h2:cX a b c with
  |false=>exact mo t39 (VH k a b c) (by rw[h1,h2];rfl)
  |true=>
   obtain⟨ha,hb,hc⟩:=fG.1 h2
   have g:=l72 k a b c ha hb hc
   have hv:=w5 b c
   cases h3:c9 (nU a b c) 8 0 with
   |false=>
    rw[h3]at g
    exact mo (fn:=f72) t39 (VF k a b c) (by rw[h1,h2];rfl) (hlc:=(fun cc hcc=>aI.cons (c:=cc) (by cases hcc;kernel_rfl) (by cases hcc;exact g) aI.nil))
   |true=>
    rw[h3]at g
    have e:=VE k a b c
    rw[Bool.not_not]at e
    exact mo (fn:=f72) t39 e (by
     rw[h1,h2,A4 ha h3]
     simp only[Bool.not_true,Bool.not_false,cond_false,Bool.true_and,rpS,Bool.and_true,Bool.and_eq_true,decide_eq_true_eq,true_and,and_true]
     omega) (hlc:=(fun cc hcc=>aI.cons (c:=cc) (by cases hcc;kernel_rfl) (by cases hcc;exact g) aI.nil))
noncomputable def T40:List bD:=[⟨83,[],nm GC⟩]++T39
theorem e40:a6 Tryz.prog T40:=by
 refine a6.append ?_ e39
 intro e he
 simp only[List.mem_cons,List.not_mem_nil,or_false]at he
 subst he;exact m72.ok
noncomputable abbrev f65:=Tryz.f51
end
section
def rdB (k:Int) (w v:List Int):Bool:=bO k v&&cE k w v
def kK (k:Int) (w v:List Int):List Int:=[(dN k w v).getD 0 0,(dN k w v).getD 1 0,(dN k w v).getD 2 0,(dN k w v).getD 3 0]
def rdX (k:Int) (w v:List Int):List Int:=bif rdB k w v then kK k w v else []
def BB:aN:=fun args h=>
 match args,h with
 |[.c (.int .i64 k),.c (.view _ (.ints .i64 w) n 1 _),.c (.view _ (.ints .i64 v) n2 1 _)],[]=>
  some (.tup [.c (.sl 0 0 (rdX k w v).length 1 none),.c (.bool (rdB k w v))],[.live (.ints .i64 (rdX k w v))],[decide (v.length≤8),bet k 1 2,aK v,decide (w.length=8),a7 w,dP k w v])
 |_,_=>none
theorem X4:aT Tryz.prog 111 BB:=by
 intro args h res h' o hnorm he ho
 unfold BB at he
 split at he
 case h_2=>cases he
 rename_i k nl w n cap nl2 v n2 cap2
 simp only[Option.some.injEq,Prod.mk.injEq]at he
 obtain⟨rfl,rfl,rfl⟩:=he
 simp only[List.mem_cons,List.not_mem_nil,or_false,forall_eq_or_imp,forall_eq,decide_eq_true_eq]at ho
 obtain⟨o1,o2,o3,o4,o5,o6⟩:=ho
 simp only[bE,AV.norm,bF,aF.norm,Con.size,List.cons.injEq,AV.c.injEq,AV.agg.injEq,aF.view.injEq,aL,true_and,and_true]at hnorm
 obtain⟨⟨rfl,rfl,rfl⟩,rfl,rfl,rfl⟩:=hnorm
 unfold rdX
 cases hr:rdB k w v with
 |true=>
  have hr':=hr
  simp only[rdB,Bool.and_eq_true,rpS]at hr'
  exact a5B _ _ _ _ _ (by simp only[bE,AV.norm,aF.norm,Con.size,aL]) rfl (by simp[o1,o2,o3,o4,o5,o6,hr'.1,hr'.2])
 |false=>
  exact bA.nilTup (h':=[]) (c0:=.ints .i64 []) (X3 _ _ (.tup [.c .nils,.c (.bool false)]) [] _ (by simp only[bE,AV.norm,aF.norm,Con.size,aL]) rfl (by simp only[rdB]at hr;simp[o1,o2,o3,o4,o5,o6,hr])) rfl
noncomputable def T41:List bD:=[⟨111,[],nm BB⟩]++T40
theorem e41:a6 Tryz.prog T41:=by
 refine a6.append ?_ e40
 intro e he
 simp only[List.mem_cons,List.not_mem_nil,or_false]at he
 subst he;exact X4.ok
theorem t41:bJ Tryz.prog (a9 T41):=aM e41
noncomputable def I65 (k:Int) (a b:List Int) (c:List Bool) (v:List Int) (i:Int):St:=
 aY f65.ntmps [(1,.c (.ptr 0 0 0 0)),(10,.c (.sl 1 0 v.length 1 none)),(11,.c (.int .i64 v.length)),(12,.c (.int .i64 i))] [.live (.cells [.int .i64 k,.view none (.ints .i64 a) a.length 1 none,.view none (.ints .i64 b) b.length 1 none,.view none (.bools c) c.length 1 none]),.live (.ints .i64 v)]
noncomputable def Y65 (k:Int) (a b:List Int) (c:List Bool) (x:Int):St:=
 aY f65.ntmps [(2,.c (.sl 0 0 (rdX k a (ofL b c x)).length 1 none)),(3,.c (.int .i64 x)),(4,.c (.bool true))] [.live (.ints .i64 (rdX k a (ofL b c x)))]
noncomputable def X65:St:=aY f65.ntmps [] []
theorem Z0 (k:Int) (a b:List Int) (c:List Bool) (v:List Int) (i:Int):aC 0 (a8 f65 0) (aA f65 0) (aG tt (a9 T41) ([]) 0 100 (a0 0 (a5 f65)) (I65 k a b c v i) [(0,true),(0,true)])=
  some (.ret,(decide (i<(↑v.length:Int))&&(decide (0≤i)&&(decide (i<(↑v.length:Int))&&(decide (i.toNat<v.length)&&(decide (c.length≤274877906944)&&(decide (b.length=c.length)&&(decide ((ofL b c (v.getD i.toNat 0)).length=(ofL b c (v.getD i.toNat 0)).length)&&(decide ((ofL b c (v.getD i.toNat 0)).length≤8)&&(bet k 1 2&&(aK (ofL b c (v.getD i.toNat 0))&&(decide (a.length=8)&&(a7 a&&(dP k a (ofL b c (v.getD i.toNat 0))&&((rdB k a (ofL b c (v.getD i.toNat 0)))&&true)))))))))))))),[],Y65 k a b c (v.getD i.toNat 0)):=by kernel_rfl
theorem Z1 (k:Int) (a b:List Int) (c:List Bool) (v:List Int) (i:Int):aC 0 (a8 f65 0) (aA f65 0) (aG tt (a9 T41) ([]) 0 100 (a0 0 (a5 f65)) (I65 k a b c v i) [(0,true),(0,false)])=
  some (.normal,(decide (i<(↑v.length:Int))&&(decide (0≤i)&&(decide (i<(↑v.length:Int))&&(decide (i.toNat<v.length)&&(decide (c.length≤274877906944)&&(decide (b.length=c.length)&&(decide ((ofL b c (v.getD i.toNat 0)).length=(ofL b c (v.getD i.toNat 0)).length)&&(decide ((ofL b c (v.getD i.toNat 0)).length≤8)&&(bet k 1 2&&(aK (ofL b c (v.getD i.toNat 0))&&(decide (a.length=8)&&(a7 a&&(dP k a (ofL b c (v.getD i.toNat 0))&&((!rdB k a (ofL b c (v.getD i.toNat 0)))&&true)))))))))))))),[],I65 k a b c v (IntKind.i64.wrap (i+1))):=by kernel_rfl
theorem Z2 (k:Int) (a b:List Int) (c:List Bool) (v:List Int) (i:Int):aC 0 (a8 f65 0) (aA f65 0) (aG tt (a9 T41) ([]) 0 100 (a0 0 (a5 f65)) (I65 k a b c v i) [(0,false)])=
  some (.exit 0,((!decide (i<(↑v.length:Int)))&&true),[],X65):=by kernel_rfl
theorem vU (q:Int→Bool) (v:List Int): ∀(n i:Nat),i+n=v.length→dK (fun i (_:Unit)=>bif q (v.getD i 0)then .inr (v.getD i 0)else .inl ()) n i ()=match(v.drop i).find? q with|some x=> .inr x|none=> .inl ()
 |0,i,h=>by rw[List.drop_eq_nil_of_le (by omega)];rfl
 |n+1,i,h=>by
  have hi:i<v.length:=by omega
  rw[List.drop_eq_getElem_cons hi]
  have hg:v.getD i 0=v[i]:=by rw[List.getD_eq_getElem?_getD,List.getElem?_eq_getElem hi];rfl
  simp only[dK,List.find?_cons]
  rw[hg]
  cases hq:q v[i]with
  |true=>rfl
  |false=>simp only[cond_false];exact vU q v n (i+1) (by omega)
def rdV (k:Int) (a b:List Int) (c:List Bool):Option Int:=(bI b c).find? fun x=>rdB k a (ofL b c x)
def okE:Option Int→Ex
 |some _=> .ret
 |none=> .normal
noncomputable def okS (k:Int) (a b:List Int) (c:List Bool):Option Int→St
 |some x=>Y65 k a b c x
 |none=>X65
theorem l65 (k:Int) (a b:List Int) (c:List Bool) (hk:bet k 1 2=true) (ha:a.length=8) (haf:a7 a=true) (hb:b.length=8) (hc:c.length=8):
  aS Tryz.prog 0 (.block 0 (.loop (a0 0 (a5 f65)))) (I65 k a b c (bI b c) 0) fun e t=>e=okE (rdV k a b c)∧t=okS k a b c (rdV k a b c):=by
 have hv:=w5 b c
 have key:=aS.countE hT t41 bK (m:=0) (id:=0) (body:=a0 0 (a5 f65)) (bI b c).length (fun _ _=>True) (fun i _=>I65 k a b c (bI b c) i) (fun _=>X65) (fun x=>Y65 k a b c x) .ret (.inr rfl)
  (fun i (_:Unit)=>bif rdB k a (ofL b c ((bI b c).getD i 0))then .inr ((bI b c).getD i 0)else .inl ()) (a8 f65 0) (aA f65 0) (fun _ _=>[]) (fun _ _ _ _=>aI.nil) (fun i _ hi _=> ?_)
  (fun _ _=>⟨_,_,⟨_,_,Z2 k a b c (bI b c) (bI b c).length,by simp,by simp⟩⟩) () trivial
 ·refine aS.mono key fun e t h=> ?_
  rw[vU (fun x=>rdB k a (ofL b c x)) (bI b c) _ 0 (by omega)]at h
  revert h
  show _→e=okE ((bI b c).find? fun x=>rdB k a (ofL b c x))∧t=okS k a b c ((bI b c).find? fun x=>rdB k a (ofL b c x))
  rw[List.drop_zero]
  cases (bI b c).find? fun x=>rdB k a (ofL b c x)<;>exact fun h=>h
 ·have hs:=kE (b:=b) (vs:=(bI b c).getD i 0) hc
  have ho:=A7 (w:=a) (b:=b) (c:=c) (vs:=(bI b c).getD i 0) hk hc
  cases hq:rdB k a (ofL b c ((bI b c).getD i 0))with
  |true=>
   refine .inr ⟨_,rfl, ?_⟩
   have e:=Z0 k a b c (bI b c) i
   rw[Int.toNat_natCast]at e
   rw[if_neg (by intro h;cases h)]
   refine⟨_,_,⟨_,_,e, ?_,by simp⟩⟩
   simp only[hq,hk,hs.1,haf,ho,Bool.true_and,rpS,Bool.and_true,Bool.and_eq_true,decide_eq_true_eq,true_and,and_true]
   omega
  |false=>
   refine .inl ⟨(),rfl,trivial, ?_⟩
   have e:=Z1 k a b c (bI b c) i
   rw[aB (by omega) (by omega),Int.toNat_natCast]at e
   refine⟨_,_,⟨_,_,e, ?_,by simp⟩⟩
   simp only[hq,hk,hs.1,haf,ho,Bool.not_false,Bool.true_and,rpS,Bool.and_true,Bool.and_eq_true,decide_eq_true_eq,true_and,and_true]
   omega
theorem VC (k:Int) (a b:List Int) (c:List Bool) (x:Int):aD tt (a9 T41) ([(0,⟨a8 f65 0,I65 k a b c (bI b c) 0,.ret,Y65 k a b c x⟩)]) 100 f65 [.agg [.int .i64 k,.view none (.ints .i64 a) a.length 1 none,.view none (.ints .i64 b) b.length 1 none,.view none (.bools c) c.length 1 none]] [] []=
  some ⟨.tup [.c (.sl 0 0 (rdX k a (ofL b c x)).length 1 none),.c (.int .i64 x),.c (.bool true)],[.live (.ints .i64 (rdX k a (ofL b c x)))],(decide (c.length≤8)&&((decide (b.length=c.length))&&true)),[I65 k a b c (bI b c) 0=I65 k a b c (bI b c) 0]⟩:=by kernel_rfl
theorem VD (k:Int) (a b:List Int) (c:List Bool):aD tt (a9 T41) ([(0,⟨a8 f65 0,I65 k a b c (bI b c) 0,.normal,X65⟩)]) 100 f65 [.agg [.int .i64 k,.view none (.ints .i64 a) a.length 1 none,.view none (.ints .i64 b) b.length 1 none,.view none (.bools c) c.length 1 none]] [] []=
  some ⟨.tup [.c .nils,.c (.int .i64 0),.c (.bool false)],[],(decide (c.length≤8)&&((decide (b.length=c.length))&&true)),[I65 k a b c (bI b c) 0=I65 k a b c (bI b c) 0]⟩:=by kernel_rfl
def rdD (k:Int) (a b:List Int) (c:List Bool):List Int:=match rdV k a b c with|some x=>rdX k a (ofL b c x)|none=>[]
def rdN (k:Int) (a b:List Int) (c:List Bool):Int:=match rdV k a b c with|some x=>x|none=>0
def rdS (k:Int) (a b:List Int) (c:List Bool):Bool:=match rdV k a b c with|some _=>true|none=>false
def wM:aN:=fun args h=>
 match args,h with
 |[.agg [.int .i64 k,.view _ (.ints .i64 a) n1 1 _,.view _ (.ints .i64 b) n2 1 _,.view _ (.bools c) n3 1 _]],[]=>
  some (.tup [.c (.sl 0 0 (rdD k a b c).length 1 none),.c (.int .i64 (rdN k a b c)),.c (.bool (rdS k a b c))],[.live (.ints .i64 (rdD k a b c))],[decide (c.length=8),decide (b.length=8),decide (a.length=8),bet k 1 2,a7 a])
 |_,_=>none
theorem m65:aT Tryz.prog 51 wM:=by
 intro args h res h' o hnorm he ho
 unfold wM at he
 split at he
 case h_2=>cases he
 rename_i k nl1 a n1 cap1 nl2 b n2 cap2 nl3 c n3 cap3
 simp only[Option.some.injEq,Prod.mk.injEq]at he
 obtain⟨rfl,rfl,rfl⟩:=he
 simp only[List.mem_cons,List.not_mem_nil,or_false,forall_eq_or_imp,forall_eq,decide_eq_true_eq]at ho
 obtain⟨o1,o2,o3,o4,o5⟩:=ho
 simp only[bE,AV.norm,bF,aF.norm,Con.size,List.cons.injEq,AV.c.injEq,AV.agg.injEq,aF.view.injEq,aL,true_and,and_true]at hnorm
 obtain⟨⟨rfl,rfl,rfl⟩,⟨rfl,rfl,rfl⟩,rfl,rfl,rfl⟩:=hnorm
 have g:=l65 k a b c o4 o3 o5 o2 o1
 unfold rdD rdN rdS
 cases hr:rdV k a b c with
 |some x=>
  rw[hr]at g
  exact mo (fn:=f65) t41 (VC k a b c x) (by simp[o1,o2]) (hlc:=(fun cc hcc=>aI.cons (c:=cc) (by cases hcc;kernel_rfl) (by cases hcc;exact g) aI.nil))
 |none=>
  rw[hr]at g
  exact bA.nilTup (h':=[]) (c0:=.ints .i64 []) (mo (fn:=f65) t41 (VD k a b c) (by simp[o1,o2]) (hlc:=(fun cc hcc=>aI.cons (c:=cc) (by cases hcc;kernel_rfl) (by cases hcc;exact g) aI.nil))) rfl
noncomputable def T42:List bD:=[⟨51,[],nm wM⟩]++T41
theorem e42:a6 Tryz.prog T42:=by
 refine a6.append ?_ e41
 intro e he
 simp only[List.mem_cons,List.not_mem_nil,or_false]at he
 subst he;exact m65.ok
theorem t42:bJ Tryz.prog (a9 T42):=aM e42
theorem a1C (k:Int) (a b:List Int) (c:List Bool):aD tt (a9 T42) ([]) 100 Tryz.f38 [.agg [.int .i64 k,.view none (.ints .i64 a) a.length 1 none,.view none (.ints .i64 b) b.length 1 none,.view none (.bools c) c.length 1 none]] [] [(0,true)]=
  some ⟨.tup [.c .nils,.c (.int .i64 0),.c (.bool false)],[],((!bU k a b c)&&true),[]⟩:=by kernel_rfl
theorem a1D (k:Int) (a b:List Int) (c:List Bool):aD tt (a9 T42) ([]) 100 Tryz.f38 [.agg [.int .i64 k,.view none (.ints .i64 a) a.length 1 none,.view none (.ints .i64 b) b.length 1 none,.view none (.bools c) c.length 1 none]] [] [(0,false)]=
  some ⟨.tup [.c (.sl 0 0 (rdD k a b c).length 1 none),.c (.int .i64 (rdN k a b c)),.c (.bool (rdS k a b c))],[.live (.ints .i64 (rdD k a b c))],(!!bU k a b c&&(decide (c.length=8)&&(decide (b.length=8)&&(decide (a.length=8)&&(bet k 1 2&&((a7 a)&&true)))))),[]⟩:=by kernel_rfl
theorem a1M (k:Int) (a b:List Int) (c:List Bool):aD tt (a9 T42) ([]) 100 Tryz.f42 [.agg [.int .i64 k,.view none (.ints .i64 a) a.length 1 none,.view none (.ints .i64 b) b.length 1 none,.view none (.bools c) c.length 1 none]] [] [(0,true)]=
  some ⟨.c (.int .i64 (-1)),[],((!bU k a b c)&&true),[]⟩:=by kernel_rfl
theorem a1N (k:Int) (a b:List Int) (c:List Bool):aD tt (a9 T42) ([]) 100 Tryz.f42 [.agg [.int .i64 k,.view none (.ints .i64 a) a.length 1 none,.view none (.ints .i64 b) b.length 1 none,.view none (.bools c) c.length 1 none]] [] [(0,false)]=
  some ⟨.c (.int .i64 (gH b c)),[],(!!bU k a b c&&(decide (c.length≤8)&&((decide (b.length=c.length))&&true))),[]⟩:=by kernel_rfl
end
section
theorem eQ {k:Int} {a b:List Int} {c:List Bool} (h:bU k a b c=true):bet k 1 2=true∧a.length=8∧b.length=8∧c.length=8∧a7 a=true:=by
 simp only[bU,Bool.and_eq_true,rpS]at h
 obtain⟨h1,h2,h3,h4⟩:=h
 obtain⟨ha,hb,hc⟩:=fG.1 h2
 exact⟨h1,ha,hb,hc,A4 ha h3⟩
def srD (k:Int) (a b:List Int) (c:List Bool):List Int:=bif bU k a b c then rdD k a b c else []
def srN (k:Int) (a b:List Int) (c:List Bool):Int:=bif bU k a b c then rdN k a b c else 0
def srS (k:Int) (a b:List Int) (c:List Bool):Bool:=bif bU k a b c then rdS k a b c else false
def wQ:aN:=fun args h=>
 match args,h with
 |[.agg [.int .i64 k,.view _ (.ints .i64 a) n1 1 _,.view _ (.ints .i64 b) n2 1 _,.view _ (.bools c) n3 1 _]],[]=>
  some (.tup [.c (.sl 0 0 (srD k a b c).length 1 none),.c (.int .i64 (srN k a b c)),.c (.bool (srS k a b c))],[.live (.ints .i64 (srD k a b c))],[])
 |_,_=>none
theorem m40:aT Tryz.prog 38 wQ:=by
 intro args h res h' o hnorm he ho
 unfold wQ at he
 split at he
 case h_2=>cases he
 rename_i k nl1 a n1 cap1 nl2 b n2 cap2 nl3 c n3 cap3
 simp only[Option.some.injEq,Prod.mk.injEq]at he
 obtain⟨rfl,rfl,rfl⟩:=he
 simp only[bE,AV.norm,bF,aF.norm,Con.size,List.cons.injEq,AV.c.injEq,AV.agg.injEq,aF.view.injEq,aL,true_and,and_true]at hnorm
 obtain⟨⟨rfl,rfl,rfl⟩,⟨rfl,rfl,rfl⟩,rfl,rfl,rfl⟩:=hnorm
 unfold srD srN srS
 cases hr:bU k a b c with
 |true=>
  obtain⟨o1,o2,o3,o4,o5⟩:=eQ hr
  exact mo t42 (a1D k a b c) (by simp[hr,o1,o2,o3,o4,o5])
 |false=>
  exact bA.nilTup (h':=[]) (c0:=.ints .i64 []) (mo t42 (a1C k a b c) (by simp[hr])) rfl
def OT (k:Int) (a b:List Int) (c:List Bool):Int:=bif bU k a b c then gH b c else -1
def BK:aN:=fun args h=>
 match args,h with
 |[.agg [.int .i64 k,.view _ (.ints .i64 a) n1 1 _,.view _ (.ints .i64 b) n2 1 _,.view _ (.bools c) n3 1 _]],[]=>
  some (.c (.int .i64 (OT k a b c)),[],[])
 |_,_=>none
theorem m44:aT Tryz.prog 42 BK:=by
 intro args h res h' o hnorm he ho
 unfold BK at he
 split at he
 case h_2=>cases he
 rename_i k nl1 a n1 cap1 nl2 b n2 cap2 nl3 c n3 cap3
 simp only[Option.some.injEq,Prod.mk.injEq]at he
 obtain⟨rfl,rfl,rfl⟩:=he
 simp only[bE,AV.norm,bF,aF.norm,Con.size,List.cons.injEq,AV.c.injEq,AV.agg.injEq,aF.view.injEq,aL,true_and,and_true]at hnorm
 obtain⟨⟨rfl,rfl,rfl⟩,⟨rfl,rfl,rfl⟩,rfl,rfl,rfl⟩:=hnorm
 unfold OT
 cases hr:bU k a b c with
 |true=>
  obtain⟨o1,o2,o3,o4,o5⟩:=eQ hr
  exact mo t42 (a1N k a b c) (by simp[hr,o1,o2,o3,o4,o5])
 |false=>exact mo t42 (a1M k a b c) (by simp[hr])
noncomputable def T43:List bD:=[⟨38,[],nm wQ⟩,⟨42,[],nm BK⟩]++T42
theorem e43:a6 Tryz.prog T43:=by
 refine a6.append ?_ e42
 intro e he
 simp only[List.mem_cons,List.not_mem_nil,or_false]at he
 rcases he with rfl|rfl
 ·exact m40.ok
 ·exact m44.ok
theorem t43:bJ Tryz.prog (a9 T43):=aM e43
noncomputable abbrev f22:=Tryz.f25
def hI (kd:Int) (d:List Int):List Int:=fT kd [ifI (aE d 4) (d.getD 0 0),ifI (aE d 4) (d.getD 1 0),ifI (aE d 4) (d.getD 2 0),ifI (aE d 4) (d.getD 3 0)]
noncomputable def I22 (k:Int) (a b:List Int) (c:List Bool) (on:Bool) (kd:Int) (d:List Int) (vs:Int) (ev:List Int) (i:Int):St:=
 aY f22.ntmps [(1,.c (.ptr 0 0 0 0)),(9,.c (.sl 1 0 8 1 none)),(96,.c (.view none (.ints .i64 b) b.length 1 none)),(97,.c (.int .i64 b.length)),(98,.c (.int .i64 i))] [.live (.cells [.int .i64 k,.view none (.ints .i64 a) a.length 1 none,.view none (.ints .i64 b) b.length 1 none,.view none (.bools c) c.length 1 none,.bool on,.int .i64 kd,.view none (.ints .i64 d) d.length 1 none,.int .i64 vs]),.live (.ints .i64 ev)]
noncomputable def X22:St:=aY f22.ntmps [] []
noncomputable def Y22:St:=aY f22.ntmps [(2,.c (.bool false))] []
theorem XX (k:Int) (a b:List Int) (c:List Bool) (on:Bool) (kd:Int) (d:List Int) (vs:Int) (ev:List Int) (i:Int):aC 0 (a8 f22 0) (aA f22 0) (aG tt (a9 T43) ([]) 0 100 (a0 0 (a5 f22)) (I22 k a b c on kd d vs ev i) [(0,true),(0,true),(0,true),(0,true)])=
  some (.ret,(decide (i<(↑b.length:Int))&&(decide (0≤i)&&(decide (i<(↑b.length:Int))&&(decide (i.toNat<b.length)&&(rp5 (b.getD i.toNat 0==vs) (decide (0≤i)&&(decide (i<(↑c.length:Int))&&((b.getD i.toNat 0==vs)&&(decide (i.toNat<c.length)&&(rp2 (b.getD i.toNat 0==vs) (rp2 (!c.getD i.toNat false) (rp9 (!c.getD i.toNat false) ((b.getD i.toNat 0==vs)&&((!c.getD i.toNat false)&&((bif b.getD i.toNat 0==vs then true else false)&&true))))))))))))))),[],Y22):=by kernel_rfl
theorem XY (k:Int) (a b:List Int) (c:List Bool) (on:Bool) (kd:Int) (d:List Int) (vs:Int) (ev:List Int) (i:Int):aC 0 (a8 f22 0) (aA f22 0) (aG tt (a9 T43) ([]) 0 100 (a0 0 (a5 f22)) (I22 k a b c on kd d vs ev i) [(0,true),(0,true),(0,false),(0,true)])=
  some (.ret,(decide (i<(↑b.length:Int))&&(decide (0≤i)&&(decide (i<(↑b.length:Int))&&(decide (i.toNat<b.length)&&(rp5 (b.getD i.toNat 0==vs) (decide (0≤i)&&(decide (i<(↑c.length:Int))&&((b.getD i.toNat 0==vs)&&(decide (i.toNat<c.length)&&(rp2 (b.getD i.toNat 0==vs) (rp5 (!!c.getD i.toNat false) (decide (0≤i)&&(decide (i<(↑a.length:Int))&&((!!c.getD i.toNat false)&&(decide (i.toNat<a.length)&&(rp3 (!!c.getD i.toNat false) (decide (0≤i)&&(decide (i<8)&&((!!c.getD i.toNat false)&&(decide (i.toNat<ev.length)&&((!!c.getD i.toNat false)&&((b.getD i.toNat 0==vs)&&((bif b.getD i.toNat 0==vs then bif !c.getD i.toNat false then true else a.getD i.toNat 0 !=ev.getD i.toNat 0 else false)&&true))))))))))))))))))))))),[],Y22):=by kernel_rfl
theorem XZ (k:Int) (a b:List Int) (c:List Bool) (on:Bool) (kd:Int) (d:List Int) (vs:Int) (ev:List Int) (i:Int):aC 0 (a8 f22 0) (aA f22 0) (aG tt (a9 T43) ([]) 0 100 (a0 0 (a5 f22)) (I22 k a b c on kd d vs ev i) [(0,true),(0,true),(0,false),(0,false)])=
  some (.normal,(decide (i<(↑b.length:Int))&&(decide (0≤i)&&(decide (i<(↑b.length:Int))&&(decide (i.toNat<b.length)&&(rp5 (b.getD i.toNat 0==vs) (decide (0≤i)&&(decide (i<(↑c.length:Int))&&((b.getD i.toNat 0==vs)&&(decide (i.toNat<c.length)&&(rp2 (b.getD i.toNat 0==vs) (rp5 (!!c.getD i.toNat false) (decide (0≤i)&&(decide (i<(↑a.length:Int))&&((!!c.getD i.toNat false)&&(decide (i.toNat<a.length)&&(rp3 (!!c.getD i.toNat false) (decide (0≤i)&&(decide (i<8)&&((!!c.getD i.toNat false)&&(decide (i.toNat<ev.length)&&((!!c.getD i.toNat false)&&((b.getD i.toNat 0==vs)&&((!bif b.getD i.toNat 0==vs then bif !c.getD i.toNat false then true else a.getD i.toNat 0 !=ev.getD i.toNat 0 else false)&&true))))))))))))))))))))))),[],I22 k a b c on kd d vs ev (IntKind.i64.wrap (i+1))):=by kernel_rfl
theorem Y0 (k:Int) (a b:List Int) (c:List Bool) (on:Bool) (kd:Int) (d:List Int) (vs:Int) (ev:List Int) (i:Int):aC 0 (a8 f22 0) (aA f22 0) (aG tt (a9 T43) ([]) 0 100 (a0 0 (a5 f22)) (I22 k a b c on kd d vs ev i) [(0,true),(0,false)])=
  some (.normal,(decide (i<(↑b.length:Int))&&(decide (0≤i)&&(decide (i<(↑b.length:Int))&&(decide (i.toNat<b.length)&&((!b.getD i.toNat 0==vs)&&(rp9 (!b.getD i.toNat 0==vs) true)))))),[],I22 k a b c on kd d vs ev (IntKind.i64.wrap (i+1))):=by kernel_rfl
theorem Y1 (k:Int) (a b:List Int) (c:List Bool) (on:Bool) (kd:Int) (d:List Int) (vs:Int) (ev:List Int) (i:Int):aC 0 (a8 f22 0) (aA f22 0) (aG tt (a9 T43) ([]) 0 100 (a0 0 (a5 f22)) (I22 k a b c on kd d vs ev i) [(0,false)])=
  some (.exit 0,((!decide (i<(↑b.length:Int)))&&true),[],X22):=by kernel_rfl
theorem UT (k:Int) (a b:List Int) (c:List Bool) (on:Bool) (kd:Int) (d:List Int) (vs:Int) (lcv:List (Nat×LC)):aD tt (a9 T43) (lcv) 100 f22 [.agg [.int .i64 k,.view none (.ints .i64 a) a.length 1 none,.view none (.ints .i64 b) b.length 1 none,.view none (.bools c) c.length 1 none,.bool on,.int .i64 kd,.view none (.ints .i64 d) d.length 1 none,.int .i64 vs]] [] [(0,true),(0,true),(0,true),(0,true),(0,true)]=
  some ⟨.c (.bool (bif bif bif bif srS k a b c then kd==0 else false then(↑d.length:Int)==0 else false then vs==0 else false then(↑(bI b c).length:Int)==1 else false)),[],((!on)&&(rp3 (srS k a b c) (rp4 (bif srS k a b c then kd==0 else false) (rp3 (bif bif srS k a b c then kd==0 else false then(↑d.length:Int)==0 else false) (rp3 (bif bif bif srS k a b c then kd==0 else false then(↑d.length:Int)==0 else false then vs==0 else false) (decide (c.length≤8)&&(decide (b.length=c.length)&&(rp2 (bif bif bif srS k a b c then kd==0 else false then(↑d.length:Int)==0 else false then vs==0 else false) true)))))))),[]⟩:=by kernel_rfl
theorem UU (k:Int) (a b:List Int) (c:List Bool) (on:Bool) (kd:Int) (d:List Int) (vs:Int) (lcv:List (Nat×LC)):aD tt (a9 T43) (lcv) 100 f22 [.agg [.int .i64 k,.view none (.ints .i64 a) a.length 1 none,.view none (.ints .i64 b) b.length 1 none,.view none (.bools c) c.length 1 none,.bool on,.int .i64 kd,.view none (.ints .i64 d) d.length 1 none,.int .i64 vs]] [] [(0,true),(0,true),(0,true),(0,true),(0,false)]=
  some ⟨.c (.bool false),[],((!on)&&(rp3 (srS k a b c) (rp4 (bif srS k a b c then kd==0 else false) (rp3 (bif bif srS k a b c then kd==0 else false then(↑d.length:Int)==0 else false) (rp6 (!bif bif bif srS k a b c then kd==0 else false then(↑d.length:Int)==0 else false then vs==0 else false) true))))),[]⟩:=by kernel_rfl
theorem UV (k:Int) (a b:List Int) (c:List Bool) (on:Bool) (kd:Int) (d:List Int) (vs:Int) (lcv:List (Nat×LC)):aD tt (a9 T43) (lcv) 100 f22 [.agg [.int .i64 k,.view none (.ints .i64 a) a.length 1 none,.view none (.ints .i64 b) b.length 1 none,.view none (.bools c) c.length 1 none,.bool on,.int .i64 kd,.view none (.ints .i64 d) d.length 1 none,.int .i64 vs]] [] [(0,true),(0,true),(0,true),(0,false)]=
  some ⟨.c (.bool false),[],((!on)&&(rp3 (srS k a b c) (rp4 (bif srS k a b c then kd==0 else false) (rp4 (!bif bif srS k a b c then kd==0 else false then(↑d.length:Int)==0 else false) true)))),[]⟩:=by kernel_rfl
theorem UW (k:Int) (a b:List Int) (c:List Bool) (on:Bool) (kd:Int) (d:List Int) (vs:Int) (lcv:List (Nat×LC)):aD tt (a9 T43) (lcv) 100 f22 [.agg [.int .i64 k,.view none (.ints .i64 a) a.length 1 none,.view none (.ints .i64 b) b.length 1 none,.view none (.bools c) c.length 1 none,.bool on,.int .i64 kd,.view none (.ints .i64 d) d.length 1 none,.int .i64 vs]] [] [(0,true),(0,true),(0,false)]=
  some ⟨.c (.bool false),[],((!on)&&(rp3 (srS k a b c) (rp5 (!bif srS k a b c then kd==0 else false) true))),[]⟩:=by kernel_rfl
theorem UX (k:Int) (a b:List Int) (c:List Bool) (on:Bool) (kd:Int) (d:List Int) (vs:Int) (lcv:List (Nat×LC)):aD tt (a9 T43) (lcv) 100 f22 [.agg [.int .i64 k,.view none (.ints .i64 a) a.length 1 none,.view none (.ints .i64 b) b.length 1 none,.view none (.bools c) c.length 1 none,.bool on,.int .i64 kd,.view none (.ints .i64 d) d.length 1 none,.int .i64 vs]] [] [(0,true),(0,false)]=
  some ⟨.c (.bool false),[],((!on)&&(rp3 (!srS k a b c) ((!srS k a b c)&&true))),[]⟩:=by kernel_rfl
theorem UY (k:Int) (a b:List Int) (c:List Bool) (on:Bool) (kd:Int) (d:List Int) (vs:Int) (lcv:List (Nat×LC)):aD tt (a9 T43) (lcv) 100 f22 [.agg [.int .i64 k,.view none (.ints .i64 a) a.length 1 none,.view none (.ints .i64 b) b.length 1 none,.view none (.bools c) c.length 1 none,.bool on,.int .i64 kd,.view none (.ints .i64 d) d.length 1 none,.int .i64 vs]] [] [(0,false),(0,true)]=
  some ⟨.c (.bool false),[],((!!on)&&(decide (d.length≤274877906944)&&(rp4 (!aE d 4) ((!aE d 4)&&true)))),[]⟩:=by kernel_rfl
theorem UZ (k:Int) (a b:List Int) (c:List Bool) (on:Bool) (kd:Int) (d:List Int) (vs:Int) (lcv:List (Nat×LC)):aD tt (a9 T43) (lcv) 100 f22 [.agg [.int .i64 k,.view none (.ints .i64 a) a.length 1 none,.view none (.ints .i64 b) b.length 1 none,.view none (.bools c) c.length 1 none,.bool on,.int .i64 kd,.view none (.ints .i64 d) d.length 1 none,.int .i64 vs]] [] [(0,false),(0,false),(0,true)]=
  some ⟨.c (.bool false),[],((!!on)&&(decide (d.length≤274877906944)&&(rp4 (!!aE d 4) (rp5 (bif !aE d 4 then true else !bet kd 1 2) true)))),[]⟩:=by kernel_rfl
theorem V0 (k:Int) (a b:List Int) (c:List Bool) (on:Bool) (kd:Int) (d:List Int) (vs:Int) (lcv:List (Nat×LC)):aD tt (a9 T43) (lcv) 100 f22 [.agg [.int .i64 k,.view none (.ints .i64 a) a.length 1 none,.view none (.ints .i64 b) b.length 1 none,.view none (.bools c) c.length 1 none,.bool on,.int .i64 kd,.view none (.ints .i64 d) d.length 1 none,.int .i64 vs]] [] [(0,false),(0,false),(0,false),(0,true)]=
  some ⟨.c (.bool false),[],((!!on)&&(decide (d.length≤274877906944)&&(rp4 (!!aE d 4) (rp4 (!bif !aE d 4 then true else !bet kd 1 2) (rp5 (bif bif !aE d 4 then true else !bet kd 1 2 then true else !bet vs 1 99) true))))),[]⟩:=by kernel_rfl
theorem V1 (k:Int) (a b:List Int) (c:List Bool) (on:Bool) (kd:Int) (d:List Int) (vs:Int) (lcv:List (Nat×LC)):aD tt (a9 T43) (lcv) 100 f22 [.agg [.int .i64 k,.view none (.ints .i64 a) a.length 1 none,.view none (.ints .i64 b) b.length 1 none,.view none (.bools c) c.length 1 none,.bool on,.int .i64 kd,.view none (.ints .i64 d) d.length 1 none,.int .i64 vs]] [] [(0,false),(0,false),(0,false),(0,false),(0,true)]=
  some ⟨.c (.bool false),[],((!!on)&&(decide (d.length≤274877906944)&&(rp4 (!!aE d 4) (rp4 (!bif !aE d 4 then true else !bet kd 1 2) (rp4 (!bif bif !aE d 4 then true else !bet kd 1 2 then true else !bet vs 1 99) ((bif bif bif !aE d 4 then true else !bet kd 1 2 then true else !bet vs 1 99 then true else !cX a b c)&&true)))))),[]⟩:=by kernel_rfl
theorem OC (k:Int) (a b:List Int) (c:List Bool) (on:Bool) (kd:Int) (d:List Int) (vs:Int) (lcv:List (Nat×LC)):aD tt (a9 T43) (lcv) 100 f22 [.agg [.int .i64 k,.view none (.ints .i64 a) a.length 1 none,.view none (.ints .i64 b) b.length 1 none,.view none (.bools c) c.length 1 none,.bool on,.int .i64 kd,.view none (.ints .i64 d) d.length 1 none,.int .i64 vs]] [] [(0,false),(0,false),(0,false),(0,false),(0,false),(0,true)]=
  some ⟨.c (.bool false),[],((!!on)&&(decide (d.length≤274877906944)&&(rp4 (!!aE d 4) (rp4 (!bif !aE d 4 then true else !bet kd 1 2) (rp4 (!bif bif !aE d 4 then true else !bet kd 1 2 then true else !bet vs 1 99) ((!bif bif bif !aE d 4 then true else !bet kd 1 2 then true else !bet vs 1 99 then true else !cX a b c)&&(decide (b.length≤274877906944)&&(decide (a.length=b.length)&&(decide (c.length=b.length)&&(decide (a.length=(aJ a b c vs).fst.length)&&(decide (b.length=(aJ a b c vs).2.1.length)&&(decide (c.length=(aJ a b c vs).2.2.length)&&(rp4 (!bU k (aJ a b c vs).fst (aJ a b c vs).2.1 (aJ a b c vs).2.2) ((!bU k (aJ a b c vs).fst (aJ a b c vs).2.1 (aJ a b c vs).2.2)&&true)))))))))))))),[]⟩:=by kernel_rfl
theorem OD (k:Int) (a b:List Int) (c:List Bool) (on:Bool) (kd:Int) (d:List Int) (vs:Int) (lcv:List (Nat×LC)):aD tt (a9 T43) (lcv) 100 f22 [.agg [.int .i64 k,.view none (.ints .i64 a) a.length 1 none,.view none (.ints .i64 b) b.length 1 none,.view none (.bools c) c.length 1 none,.bool on,.int .i64 kd,.view none (.ints .i64 d) d.length 1 none,.int .i64 vs]] [] [(0,false),(0,false),(0,false),(0,false),(0,false),(0,false),(0,true)]=
  some ⟨.c (.bool false),[],((!!on)&&(decide (d.length≤274877906944)&&(rp4 (!!aE d 4) (rp4 (!bif !aE d 4 then true else !bet kd 1 2) (rp4 (!bif bif !aE d 4 then true else !bet kd 1 2 then true else !bet vs 1 99) ((!bif bif bif !aE d 4 then true else !bet kd 1 2 then true else !bet vs 1 99 then true else !cX a b c)&&(decide (b.length≤274877906944)&&(decide (a.length=b.length)&&(decide (c.length=b.length)&&(decide (a.length=(aJ a b c vs).fst.length)&&(decide (b.length=(aJ a b c vs).2.1.length)&&(decide (c.length=(aJ a b c vs).2.2.length)&&(rp2 (!!bU k (aJ a b c vs).fst (aJ a b c vs).2.1 (aJ a b c vs).2.2) (decide (a.length=(aJ a b c vs).fst.length)&&(decide (b.length=(aJ a b c vs).2.1.length)&&(decide (c.length=(aJ a b c vs).2.2.length)&&(decide ((aJ a b c vs).2.2.length≤8)&&(decide ((aJ a b c vs).2.1.length=(aJ a b c vs).2.2.length)&&(rp2 (!!bU k (aJ a b c vs).fst (aJ a b c vs).2.1 (aJ a b c vs).2.2) (rp6 (bif !bU k (aJ a b c vs).fst (aJ a b c vs).2.1 (aJ a b c vs).2.2 then true else decide ((↑(bI (aJ a b c vs).2.1 (aJ a b c vs).2.2).length:Int)>1)) true)))))))))))))))))))),[]⟩:=by kernel_rfl
theorem OE (k:Int) (a b:List Int) (c:List Bool) (on:Bool) (kd:Int) (d:List Int) (vs:Int) (lcv:List (Nat×LC)):aD tt (a9 T43) (lcv) 100 f22 [.agg [.int .i64 k,.view none (.ints .i64 a) a.length 1 none,.view none (.ints .i64 b) b.length 1 none,.view none (.bools c) c.length 1 none,.bool on,.int .i64 kd,.view none (.ints .i64 d) d.length 1 none,.int .i64 vs]] [] [(0,false),(0,false),(0,false),(0,false),(0,false),(0,false),(0,false),(0,true)]=
  some ⟨.c (.bool false),[],((!!on)&&(decide (d.length≤274877906944)&&(rp4 (!!aE d 4) (rp4 (!bif !aE d 4 then true else !bet kd 1 2) (rp4 (!bif bif !aE d 4 then true else !bet kd 1 2 then true else !bet vs 1 99) ((!bif bif bif !aE d 4 then true else !bet kd 1 2 then true else !bet vs 1 99 then true else !cX a b c)&&(decide (b.length≤274877906944)&&(decide (a.length=b.length)&&(decide (c.length=b.length)&&(decide (a.length=(aJ a b c vs).fst.length)&&(decide (b.length=(aJ a b c vs).2.1.length)&&(decide (c.length=(aJ a b c vs).2.2.length)&&(rp2 (!!bU k (aJ a b c vs).fst (aJ a b c vs).2.1 (aJ a b c vs).2.2) (decide (a.length=(aJ a b c vs).fst.length)&&(decide (b.length=(aJ a b c vs).2.1.length)&&(decide (c.length=(aJ a b c vs).2.2.length)&&(decide ((aJ a b c vs).2.2.length≤8)&&(decide ((aJ a b c vs).2.1.length=(aJ a b c vs).2.2.length)&&(rp2 (!!bU k (aJ a b c vs).fst (aJ a b c vs).2.1 (aJ a b c vs).2.2) (rp2 (!bif !bU k (aJ a b c vs).fst (aJ a b c vs).2.1 (aJ a b c vs).2.2 then true else decide ((↑(bI (aJ a b c vs).2.1 (aJ a b c vs).2.2).length:Int)>1)) (decide (a.length=(aJ a b c vs).fst.length)&&(decide (b.length=(aJ a b c vs).2.1.length)&&(decide (c.length=(aJ a b c vs).2.2.length)&&(decide ((aJ a b c vs).2.2.length≤8)&&(decide ((aJ a b c vs).2.1.length=(aJ a b c vs).2.2.length)&&(rp3 (!bif !bU k (aJ a b c vs).fst (aJ a b c vs).2.1 (aJ a b c vs).2.2 then true else decide ((↑(bI (aJ a b c vs).2.1 (aJ a b c vs).2.2).length:Int)>1)) ((bif bif !bU k (aJ a b c vs).fst (aJ a b c vs).2.1 (aJ a b c vs).2.2 then true else decide ((↑(bI (aJ a b c vs).2.1 (aJ a b c vs).2.2).length:Int)>1)then true else decide (gH (aJ a b c vs).2.1 (aJ a b c vs).2.2≥vs))&&true))))))))))))))))))))))))))),[]⟩:=by kernel_rfl
theorem OF (k:Int) (a b:List Int) (c:List Bool) (on:Bool) (kd:Int) (d:List Int) (vs:Int):aD tt (a9 T43) ([(0,⟨a8 f22 0,I22 k a b c on kd d vs (hI kd d) 0,.normal,X22⟩)]) 100 f22 [.agg [.int .i64 k,.view none (.ints .i64 a) a.length 1 none,.view none (.ints .i64 b) b.length 1 none,.view none (.bools c) c.length 1 none,.bool on,.int .i64 kd,.view none (.ints .i64 d) d.length 1 none,.int .i64 vs]] [] [(0,false),(0,false),(0,false),(0,false),(0,false),(0,false),(0,false),(0,false)]=
  some ⟨.c (.bool true),[],((!!on)&&(decide (d.length≤274877906944)&&(rp4 (!!aE d 4) (rp4 (!bif !aE d 4 then true else !bet kd 1 2) (rp4 (!bif bif !aE d 4 then true else !bet kd 1 2 then true else !bet vs 1 99) ((!bif bif bif !aE d 4 then true else !bet kd 1 2 then true else !bet vs 1 99 then true else !cX a b c)&&(decide (b.length≤274877906944)&&(decide (a.length=b.length)&&(decide (c.length=b.length)&&(decide (a.length=(aJ a b c vs).fst.length)&&(decide (b.length=(aJ a b c vs).2.1.length)&&(decide (c.length=(aJ a b c vs).2.2.length)&&(rp2 (!!bU k (aJ a b c vs).fst (aJ a b c vs).2.1 (aJ a b c vs).2.2) (decide (a.length=(aJ a b c vs).fst.length)&&(decide (b.length=(aJ a b c vs).2.1.length)&&(decide (c.length=(aJ a b c vs).2.2.length)&&(decide ((aJ a b c vs).2.2.length≤8)&&(decide ((aJ a b c vs).2.1.length=(aJ a b c vs).2.2.length)&&(rp2 (!!bU k (aJ a b c vs).fst (aJ a b c vs).2.1 (aJ a b c vs).2.2) (rp2 (!bif !bU k (aJ a b c vs).fst (aJ a b c vs).2.1 (aJ a b c vs).2.2 then true else decide ((↑(bI (aJ a b c vs).2.1 (aJ a b c vs).2.2).length:Int)>1)) (decide (a.length=(aJ a b c vs).fst.length)&&(decide (b.length=(aJ a b c vs).2.1.length)&&(decide (c.length=(aJ a b c vs).2.2.length)&&(decide ((aJ a b c vs).2.2.length≤8)&&(decide ((aJ a b c vs).2.1.length=(aJ a b c vs).2.2.length)&&(rp3 (!bif !bU k (aJ a b c vs).fst (aJ a b c vs).2.1 (aJ a b c vs).2.2 then true else decide ((↑(bI (aJ a b c vs).2.1 (aJ a b c vs).2.2).length:Int)>1)) ((!bif bif !bU k (aJ a b c vs).fst (aJ a b c vs).2.1 (aJ a b c vs).2.2 then true else decide ((↑(bI (aJ a b c vs).2.1 (aJ a b c vs).2.2).length:Int)>1)then true else decide (gH (aJ a b c vs).2.1 (aJ a b c vs).2.2≥vs))&&(bet kd 1 2&&(fok (ifI (aE d 4) (d.getD 0 0))&&(fok (ifI (aE d 4) (d.getD 1 0))&&(fok (ifI (aE d 4) (d.getD 2 0))&&((fok (ifI (aE d 4) (d.getD 3 0)))&&true)))))))))))))))))))))))))))))))),[I22 k a b c on kd d vs (hI kd d) 0=I22 k a b c on kd d vs (hI kd d) 0]⟩:=by kernel_rfl
theorem OG (k:Int) (a b:List Int) (c:List Bool) (on:Bool) (kd:Int) (d:List Int) (vs:Int):aD tt (a9 T43) ([(0,⟨a8 f22 0,I22 k a b c on kd d vs (hI kd d) 0,.ret,Y22⟩)]) 100 f22 [.agg [.int .i64 k,.view none (.ints .i64 a) a.length 1 none,.view none (.ints .i64 b) b.length 1 none,.view none (.bools c) c.length 1 none,.bool on,.int .i64 kd,.view none (.ints .i64 d) d.length 1 none,.int .i64 vs]] [] [(0,false),(0,false),(0,false),(0,false),(0,false),(0,false),(0,false),(0,false)]=
  some ⟨.c (.bool false),[],((!!on)&&(decide (d.length≤274877906944)&&(rp4 (!!aE d 4) (rp4 (!bif !aE d 4 then true else !bet kd 1 2) (rp4 (!bif bif !aE d 4 then true else !bet kd 1 2 then true else !bet vs 1 99) ((!bif bif bif !aE d 4 then true else !bet kd 1 2 then true else !bet vs 1 99 then true else !cX a b c)&&(decide (b.length≤274877906944)&&(decide (a.length=b.length)&&(decide (c.length=b.length)&&(decide (a.length=(aJ a b c vs).fst.length)&&(decide (b.length=(aJ a b c vs).2.1.length)&&(decide (c.length=(aJ a b c vs).2.2.length)&&(rp2 (!!bU k (aJ a b c vs).fst (aJ a b c vs).2.1 (aJ a b c vs).2.2) (decide (a.length=(aJ a b c vs).fst.length)&&(decide (b.length=(aJ a b c vs).2.1.length)&&(decide (c.length=(aJ a b c vs).2.2.length)&&(decide ((aJ a b c vs).2.2.length≤8)&&(decide ((aJ a b c vs).2.1.length=(aJ a b c vs).2.2.length)&&(rp2 (!!bU k (aJ a b c vs).fst (aJ a b c vs).2.1 (aJ a b c vs).2.2) (rp2 (!bif !bU k (aJ a b c vs).fst (aJ a b c vs).2.1 (aJ a b c vs).2.2 then true else decide ((↑(bI (aJ a b c vs).2.1 (aJ a b c vs).2.2).length:Int)>1)) (decide (a.length=(aJ a b c vs).fst.length)&&(decide (b.length=(aJ a b c vs).2.1.length)&&(decide (c.length=(aJ a b c vs).2.2.length)&&(decide ((aJ a b c vs).2.2.length≤8)&&(decide ((aJ a b c vs).2.1.length=(aJ a b c vs).2.2.length)&&(rp3 (!bif !bU k (aJ a b c vs).fst (aJ a b c vs).2.1 (aJ a b c vs).2.2 then true else decide ((↑(bI (aJ a b c vs).2.1 (aJ a b c vs).2.2).length:Int)>1)) ((!bif bif !bU k (aJ a b c vs).fst (aJ a b c vs).2.1 (aJ a b c vs).2.2 then true else decide ((↑(bI (aJ a b c vs).2.1 (aJ a b c vs).2.2).length:Int)>1)then true else decide (gH (aJ a b c vs).2.1 (aJ a b c vs).2.2≥vs))&&(bet kd 1 2&&(fok (ifI (aE d 4) (d.getD 0 0))&&(fok (ifI (aE d 4) (d.getD 1 0))&&(fok (ifI (aE d 4) (d.getD 2 0))&&((fok (ifI (aE d 4) (d.getD 3 0)))&&true)))))))))))))))))))))))))))))))),[I22 k a b c on kd d vs (hI kd d) 0=I22 k a b c on kd d vs (hI kd d) 0]⟩:=by kernel_rfl
def jT (a b:List Int) (c:List Bool) (vs:Int) (ev:List Int) (i:Nat):Bool:=bif b.getD i 0==vs then c.getD i false&& !(a.getD i 0 !=ev.getD i 0)else true
theorem l22 (k:Int) (a b:List Int) (c:List Bool) (on:Bool) (kd:Int) (d:List Int) (vs:Int) (ev:List Int) (ha:a.length=8) (hb:b.length=8) (hc:c.length=8) (he:ev.length=8):
  aS Tryz.prog 0 (.block 0 (.loop (a0 0 (a5 f22)))) (I22 k a b c on kd d vs ev 0) fun e t=>e=(bif c9 (jT a b c vs ev) 8 0 then .normal else .ret)∧t=bif c9 (jT a b c vs ev) 8 0 then X22 else Y22:=by
 refine aS.all hT t43 bK 8 (jT a b c vs ev) (fun i=>I22 k a b c on kd d vs ev i) X22 Y22 .ret (.inr rfl) (a8 f22 0) (aA f22 0) (fun _=>[]) (fun _ _=>aI.nil) (fun i hi h=> ?_) (fun i hi h=> ?_)
  ⟨_,_,⟨_,_,Y1 k a b c on kd d vs ev (8:Nat),by rw[hb];rfl,by simp⟩⟩
 ·unfold jT at h
  cases h1:b.getD i 0==vs with
  |true=>
   rw[h1,cond_true,Bool.and_eq_true,Bool.not_eq_true']at h
   obtain⟨h2,h3⟩:=h
   have e:=XZ k a b c on kd d vs ev i
   rw[aB (by omega) (by omega),Int.toNat_natCast]at e
   refine⟨_,_,⟨_,_,e, ?_,by simp⟩⟩
   simp only[h1,h2,h3,bS,rpS]
   omega
  |false=>
   have e:=Y0 k a b c on kd d vs ev i
   rw[aB (by omega) (by omega),Int.toNat_natCast]at e
   refine⟨_,_,⟨_,_,e, ?_,by simp⟩⟩
   simp only[h1,bS,rpS]
   omega
 ·unfold jT at h
  rw[if_neg (by intro h;cases h)]
  cases h1:b.getD i 0==vs with
  |false=>rw[h1]at h;cases h
  |true=>
   rw[h1,cond_true]at h
   cases h2:c.getD i false with
   |false=>
    have e:=XX k a b c on kd d vs ev i
    rw[Int.toNat_natCast]at e
    refine⟨_,_,⟨_,_,e, ?_,by simp⟩⟩
    simp only[h1,h2,bS,rpS]
    omega
   |true=>
    rw[h2,Bool.true_and,Bool.not_eq_false']at h
    have e:=XY k a b c on kd d vs ev i
    rw[Int.toNat_natCast]at e
    refine⟨_,_,⟨_,_,e, ?_,by simp⟩⟩
    simp only[h1,h2,h,bS,rpS]
    omega
theorem oR {v:List Int} {n:Int} (h:aE v n=true) (i:Nat):fok (v.getD i 0)=true:=by
 simp only[aE,Bool.and_eq_true,rpS]at h
 exact aO h.1 i
def rsA (a b:List Int) (c:List Bool) (vs:Int):List Int:=(aJ a b c vs).1
def rsB (a b:List Int) (c:List Bool) (vs:Int):List Int:=(aJ a b c vs).2.1
def rsC (a b:List Int) (c:List Bool) (vs:Int):List Bool:=(aJ a b c vs).2.2
def oW (k:Int) (a b:List Int) (c:List Bool) (kd:Int) (d:List Int) (vs:Int):Bool:=srS k a b c&&((kd==0)&&(((d.length:Int)==0)&&((vs==0)&&(((bI b c).length:Int)==1))))
def sR (k:Int) (a b:List Int) (c:List Bool) (kd:Int) (d:List Int) (vs:Int):Bool:=
 aE d 4&&(bet kd 1 2&&(bet vs 1 99&&(cX a b c&&(bU k (rsA a b c vs) (rsB a b c vs) (rsC a b c vs)&&(!decide (((bI (rsB a b c vs) (rsC a b c vs)).length:Int)>1)&&
  (!decide (gH (rsB a b c vs) (rsC a b c vs)≥vs)&&c9 (jT a b c vs (hI kd d)) 8 0))))))
def bC (k:Int) (a b:List Int) (c:List Bool) (on:Bool) (kd:Int) (d:List Int) (vs:Int):Bool:=bif on then sR k a b c kd d vs else oW k a b c kd d vs
theorem tI (a b:List Int) (c:List Bool) (vs:Int):(rsA a b c vs).length=a.length∧(rsB a b c vs).length=b.length∧(rsC a b c vs).length=c.length:=
 bB (step:=qI vs) (fun _ s=>s.1.length=a.length∧s.2.1.length=b.length∧s.2.2.length=c.length) b.length (a,b,c) ⟨rfl,rfl,rfl⟩ fun i s _ h=>by
  unfold qI
  cases s.2.1.getD i 0==vs
  ·exact h
  ·simp[h.1,h.2.1,h.2.2]
def G0:aN:=fun args h=>
 match args,h with
 |[.agg [.int .i64 k,.view _ (.ints .i64 a) n1 1 _,.view _ (.ints .i64 b) n2 1 _,.view _ (.bools c) n3 1 _,.bool on,.int .i64 kd,.view _ (.ints .i64 d) n4 1 _,.int .i64 vs]],[]=>
  some (.c (.bool (bC k a b c on kd d vs)),[],[decide (d.length≤274877906944)])
 |_,_=>none
theorem m22:aT Tryz.prog 25 G0:=by
 intro args h res h' o hnorm he ho
 unfold G0 at he
 split at he
 case h_2=>cases he
 rename_i k nl1 a n1 cap1 nl2 b n2 cap2 nl3 c n3 cap3 on kd nl4 d n4 cap4 vs
 simp only[Option.some.injEq,Prod.mk.injEq]at he
 obtain⟨rfl,rfl,rfl⟩:=he
 simp only[List.mem_cons,List.not_mem_nil,or_false,forall_eq_or_imp,forall_eq,decide_eq_true_eq]at ho
 have o1:=ho
 simp only[bE,AV.norm,bF,aF.norm,Con.size,List.cons.injEq,AV.c.injEq,AV.agg.injEq,aF.view.injEq,aL,true_and,and_true]at hnorm
 obtain⟨⟨rfl,rfl,rfl⟩,⟨rfl,rfl,rfl⟩,⟨rfl,rfl,rfl⟩,rfl,rfl,rfl⟩:=hnorm
 have st: ∀(x:Bool) (p:i6) (ob:Bool),(∀lcv,aD tt (a9 T43) lcv 100 f22 [.agg [.int .i64 k,.view none (.ints .i64 a) a.length 1 none,.view none (.ints .i64 b) b.length 1 none,.view none (.bools c) c.length 1 none,.bool on,.int .i64 kd,.view none (.ints .i64 d) d.length 1 none,.int .i64 vs]] [] p=some ⟨.c (.bool x),[],ob,[]⟩)→ob=true→bA Tryz.prog 25 [.agg [.int .i64 k,.view none (.ints .i64 a) a.length 1 none,.view none (.ints .i64 b) b.length 1 none,.view none (.bools c) c.length 1 none,.bool on,.int .i64 kd,.view none (.ints .i64 d) d.length 1 none,.int .i64 vs]] [] (.c (.bool x)) []:=
  fun x p ob h1 h2=>mo t43 (h1 []) h2
 cases on with
 |false=>
  show bA _ _ _ _ (.c (.bool (oW k a b c kd d vs))) _
  unfold oW
  cases h1:srS k a b c with
  |false=>exact st _ _ _ (UX k a b c false kd d vs) (by simp only[h1];rfl)
  |true=>
   obtain⟨q1,q2,q3,q4,q5⟩:=eQ (k:=k) (a:=a) (b:=b) (c:=c) (by
    unfold srS at h1
    cases h:bU k a b c with
    |true=>rfl
    |false=>rw[h]at h1;cases h1)
   cases h2:kd==0 with
   |false=>exact st _ _ _ (UW k a b c false kd d vs) (by simp only[h1,h2];rfl)
   |true=>
    cases h3:(d.length:Int)==0 with
    |false=>exact st _ _ _ (UV k a b c false kd d vs) (by simp only[h1,h2,h3];rfl)
    |true=>
     cases h4:vs==0 with
     |false=>exact st _ _ _ (UU k a b c false kd d vs) (by simp only[h1,h2,h3,h4];rfl)
     |true=>
      have e:=UT k a b c false kd d vs
      simp only[h1,h2,h3,h4,cond_true]at e
      exact st _ _ _ e (by simp only[q2,q3,q4,bS,rpS];omega)
 |true=>
  show bA _ _ _ _ (.c (.bool (sR k a b c kd d vs))) _
  unfold sR
  obtain⟨z1,z2,z3⟩:=tI a b c vs
  dsimp only[rsA,rsB,rsC]at z1 z2 z3
  cases h1:aE d 4 with
  |false=>exact st _ _ _ (UY k a b c true kd d vs) (by simp only[h1,bS,rpS];exact o1)
  |true=>
   cases h2:bet kd 1 2 with
   |false=>exact st _ _ _ (UZ k a b c true kd d vs) (by simp only[h1,h2,bS,rpS];exact o1)
   |true=>
    cases h3:bet vs 1 99 with
    |false=>exact st _ _ _ (V0 k a b c true kd d vs) (by simp only[h1,h2,h3,bS,rpS];exact o1)
    |true=>
     cases h4:cX a b c with
     |false=>exact st _ _ _ (V1 k a b c true kd d vs) (by simp only[h1,h2,h3,h4,bS,rpS];exact o1)
     |true=>
      obtain⟨ha,hb,hc⟩:=fG.1 h4
      cases h5:bU k (rsA a b c vs) (rsB a b c vs) (rsC a b c vs)with
      |false=>exact st _ _ _ (OC k a b c true kd d vs) (by
        have h5:bU k (aJ a b c vs).1 (aJ a b c vs).2.1 (aJ a b c vs).2.2=false:=h5
        simp only[h1,h2,h3,h4,h5,bS,rpS];omega)
      |true=>
       cases h6:decide (((bI (rsB a b c vs) (rsC a b c vs)).length:Int)>1)with
       |true=>exact st _ _ _ (OD k a b c true kd d vs) (by
         have h5:bU k (aJ a b c vs).1 (aJ a b c vs).2.1 (aJ a b c vs).2.2=true:=h5
         have h6:decide (((bI (aJ a b c vs).2.1 (aJ a b c vs).2.2).length:Int)>1)=true:=h6
         simp only[h1,h2,h3,h4,h5,h6,bS,rpS];omega)
       |false=>
        cases h7:decide (gH (rsB a b c vs) (rsC a b c vs)≥vs)with
        |true=>exact st _ _ _ (OE k a b c true kd d vs) (by
         have h5:bU k (aJ a b c vs).1 (aJ a b c vs).2.1 (aJ a b c vs).2.2=true:=h5
         have h6:decide (((bI (aJ a b c vs).2.1 (aJ a b c vs).2.2).length:Int)>1)=false:=h6
         have h7:decide (gH (aJ a b c vs).2.1 (aJ a b c vs).2.2≥vs)=true:=h7
         simp only[h1,h2,h3,h4,h5,h6,h7,bS,rpS];omega)
        |false=>
         have g:=l22 k a b c true kd d vs (hI kd d) ha hb hc rfl
         have hf:=oR h1
         cases h8:c9 (jT a b c vs (hI kd d)) 8 0 with
         |true=>
          rw[h8]at g
          exact mo t43 (OF k a b c true kd d vs) (by
           have h5:bU k (aJ a b c vs).1 (aJ a b c vs).2.1 (aJ a b c vs).2.2=true:=h5
           have h6:decide (((bI (aJ a b c vs).2.1 (aJ a b c vs).2.2).length:Int)>1)=false:=h6
           have h7:decide (gH (aJ a b c vs).2.1 (aJ a b c vs).2.2≥vs)=false:=h7
           simp only[h1,h2,h3,h4,h5,h6,h7,ifI,hf,bS,rpS];omega) (hlc:=(fun cc hcc=>aI.cons (c:=cc) (by cases hcc;kernel_rfl) (by cases hcc;exact g) aI.nil))
         |false=>
          rw[h8]at g
          exact mo t43 (OG k a b c true kd d vs) (by
           have h5:bU k (aJ a b c vs).1 (aJ a b c vs).2.1 (aJ a b c vs).2.2=true:=h5
           have h6:decide (((bI (aJ a b c vs).2.1 (aJ a b c vs).2.2).length:Int)>1)=false:=h6
           have h7:decide (gH (aJ a b c vs).2.1 (aJ a b c vs).2.2≥vs)=false:=h7
           simp only[h1,h2,h3,h4,h5,h6,h7,ifI,hf,bS,rpS];omega) (hlc:=(fun cc hcc=>aI.cons (c:=cc) (by cases hcc;kernel_rfl) (by cases hcc;exact g) aI.nil))
end
section
noncomputable def T44:List bD:=[⟨25,[],nm G0⟩]++T43
theorem e44:a6 Tryz.prog T44:=by
 refine a6.append ?_ e43
 intro e he
 simp only[List.mem_cons,List.not_mem_nil,or_false]at he
 subst he;exact m22.ok
theorem t44:bJ Tryz.prog (a9 T44):=aM e44
structure PK where
 k:Int
 a:List Int
 b:List Int
 c:List Bool
 on:Bool
 kd:Int
 d:List Int
 vs:Int
def PK.cells (x:PK):List aF:=[.int .i64 x.k,.sl 0 0 x.a.length 1 none,.sl 1 0 x.b.length 1 none,.sl 2 0 x.c.length 1 none,.bool x.on,.int .i64 x.kd,.sl 3 0 x.d.length 1 none,.int .i64 x.vs]
def PK.heap (x:PK):List aW:=[.live (.ints .i64 x.a),.live (.ints .i64 x.b),.live (.bools x.c),.live (.ints .i64 x.d)]
def PK.ok (x:PK):Bool:=bC x.k x.a x.b x.c x.on x.kd x.d x.vs
def PK0:PK:=⟨0,[],[],[],false,0,[],0⟩
theorem w7 {P:Program} {f:FuncId} {args:List AV} {h:List aW} (hm:bA P f args [] (.agg [.int .i64 0,.nils,.nils,.nils,.bool false,.int .i64 0,.nils,.int .i64 0]) []):bA P f args [] (.agg PK0.cells) PK0.heap:=
 (((hm.nil1 (es:=1) (c0:=.ints .i64 []) rfl rfl).nil1 (es:=1) (c0:=.ints .i64 []) rfl rfl).nil1 (es:=1) (c0:=.bools []) rfl rfl).nil1 (es:=1) (c0:=.ints .i64 []) rfl rfl
theorem gJ {P:Program} {f:FuncId} {args:List AV} {b:Bool} (hm:bA P f args [] (.tup [.agg [.int .i64 0,.nils,.nils,.nils,.bool false,.int .i64 0,.nils,.int .i64 0],.c (.bool b)]) []):bA P f args [] (.tup [.agg PK0.cells,.c (.bool b)]) PK0.heap:=
 (((hm.nil1 (es:=1) (c0:=.ints .i64 []) rfl rfl).nil1 (es:=1) (c0:=.ints .i64 []) rfl rfl).nil1 (es:=1) (c0:=.bools []) rfl rfl).nil1 (es:=1) (c0:=.ints .i64 []) rfl rfl
theorem dH {k:Int} {a b:List Int} {c:List Bool} {on:Bool} {kd:Int} {d:List Int} {vs:Int} (h:bC k a b c on kd d vs=true):a.length=8∧b.length=8∧c.length=8:=by
 unfold bC at h
 cases on with
 |true=>
  simp only[cond_true,sR,Bool.and_eq_true,rpS]at h
  exact fG.1 h.2.2.2.1
 |false=>
  simp only[cond_false,oW,Bool.and_eq_true,rpS]at h
  have h1:=h.1
  unfold srS at h1
  cases hs:bU k a b c with
  |true=>exact⟨(eQ hs).2.1,(eQ hs).2.2.1,(eQ hs).2.2.2.1⟩
  |false=>rw[hs]at h1;cases h1
theorem DP {k:Int} {a b:List Int} {c:List Bool} {on:Bool} {kd:Int} {d:List Int} {vs:Int} (h:bC k a b c on kd d vs=true) (ho:on=false):bU k a b c=true∧d=[]∧kd=0∧vs=0:=by
 subst ho
 simp only[bC,cond_false,oW,Bool.and_eq_true,rpS,beq_iff_eq]at h
 obtain⟨h1,h2,h3,h4,h5⟩:=h
 unfold srS at h1
 refine⟨?_,List.eq_nil_of_length_eq_zero (by omega),h2,h4⟩
 cases hs:bU k a b c with
 |true=>rfl
 |false=>rw[hs]at h1;cases h1
theorem CC {k:Int} {a b:List Int} {c:List Bool} {on:Bool} {kd:Int} {d:List Int} {vs:Int} (h:bC k a b c on kd d vs=true) (ho:on=true):aE d 4=true∧bet kd 1 2=true∧bet vs 1 99=true:=by
 subst ho
 simp only[bC,cond_true,sR,Bool.and_eq_true,rpS]at h
 exact⟨h.1,h.2.1,h.2.2.1⟩
def krD (k:Int) (a b:List Int) (c:List Bool) (on:Bool) (kd:Int) (d:List Int) (vs:Int):List Int:=bif bC k a b c on kd d vs then(bif on then d else rdD k a b c)else []
def krB (k:Int) (a b:List Int) (c:List Bool) (on:Bool) (kd:Int) (d:List Int) (vs:Int):Bool:=bif bC k a b c on kd d vs then(bif on then true else rdS k a b c)else false
theorem a0Q (k:Int) (a b:List Int) (c:List Bool) (on:Bool) (kd:Int) (d:List Int) (vs:Int):aD tt (a9 T44) ([]) 100 Tryz.f20 [.agg [.int .i64 k,.view none (.ints .i64 a) a.length 1 none,.view none (.ints .i64 b) b.length 1 none,.view none (.bools c) c.length 1 none,.bool on,.int .i64 kd,.view none (.ints .i64 d) d.length 1 none,.int .i64 vs]] [] [(0,true)]=
  some ⟨.tup [.c .nils,.c (.bool false)],[],(decide (d.length≤274877906944)&&((!bC k a b c on kd d vs)&&true)),[]⟩:=by kernel_rfl
theorem a0R (k:Int) (a b:List Int) (c:List Bool) (on:Bool) (kd:Int) (d:List Int) (vs:Int):aD tt (a9 T44) ([]) 100 Tryz.f20 [.agg [.int .i64 k,.view none (.ints .i64 a) a.length 1 none,.view none (.ints .i64 b) b.length 1 none,.view none (.bools c) c.length 1 none,.bool on,.int .i64 kd,.view none (.ints .i64 d) d.length 1 none,.int .i64 vs]] [] [(0,false),(0,true)]=
  some ⟨.tup [.c (.sl 0 0 (↑d.length:Int).toNat 1 none),.c (.bool true)],[.live (.ints .i64 d)],(decide (d.length≤274877906944)&&(!!bC k a b c on kd d vs&&((on)&&(decide (d.length≤274877906944)&&((rp2 (decide ((↑d.length:Int)≤(↑d.length:Int))) true)&&true))))),[]⟩:=by kernel_rfl
theorem a0S (k:Int) (a b:List Int) (c:List Bool) (on:Bool) (kd:Int) (d:List Int) (vs:Int):aD tt (a9 T44) ([]) 100 Tryz.f20 [.agg [.int .i64 k,.view none (.ints .i64 a) a.length 1 none,.view none (.ints .i64 b) b.length 1 none,.view none (.bools c) c.length 1 none,.bool on,.int .i64 kd,.view none (.ints .i64 d) d.length 1 none,.int .i64 vs]] [] [(0,false),(0,false)]=
  some ⟨.tup [.c (.sl 0 0 (rdD k a b c).length 1 none),.c (.bool (rdS k a b c))],[.live (.ints .i64 (rdD k a b c))],(decide (d.length≤274877906944)&&(!!bC k a b c on kd d vs&&((!on)&&(decide (c.length=8)&&(decide (b.length=8)&&(decide (a.length=8)&&(bet k 1 2&&((a7 a)&&true)))))))),[]⟩:=by kernel_rfl
def wF:aN:=fun args h=>
 match args,h with
 |[.agg [.int .i64 k,.view _ (.ints .i64 a) n1 1 _,.view _ (.ints .i64 b) n2 1 _,.view _ (.bools c) n3 1 _,.bool on,.int .i64 kd,.view _ (.ints .i64 d) n4 1 _,.int .i64 vs]],[]=>
  some (.tup [.c (.sl 0 0 (krD k a b c on kd d vs).length 1 none),.c (.bool (krB k a b c on kd d vs))],[.live (.ints .i64 (krD k a b c on kd d vs))],[decide (d.length≤274877906944)])
 |_,_=>none
theorem m20:aT Tryz.prog 20 wF:=by
 intro args h res h' o hnorm he ho
 unfold wF at he
 split at he
 case h_2=>cases he
 rename_i k nl1 a n1 cap1 nl2 b n2 cap2 nl3 c n3 cap3 on kd nl4 d n4 cap4 vs
 simp only[Option.some.injEq,Prod.mk.injEq]at he
 obtain⟨rfl,rfl,rfl⟩:=he
 simp only[List.mem_cons,List.not_mem_nil,or_false,forall_eq_or_imp,forall_eq,decide_eq_true_eq]at ho
 have o1:=ho
 simp only[bE,AV.norm,bF,aF.norm,Con.size,List.cons.injEq,AV.c.injEq,AV.agg.injEq,aF.view.injEq,aL,true_and,and_true]at hnorm
 obtain⟨⟨rfl,rfl,rfl⟩,⟨rfl,rfl,rfl⟩,⟨rfl,rfl,rfl⟩,rfl,rfl,rfl⟩:=hnorm
 unfold krD krB
 cases h:bC k a b c on kd d vs with
 |false=>exact bA.nilTup (h':=[]) (c0:=.ints .i64 []) (mo t44 (a0Q k a b c on kd d vs) (by simp only[h,o1];rfl)) rfl
 |true=>
  obtain⟨ha,hb,hc⟩:=dH h
  cases ho:on with
  |true=>subst ho;exact mo t44 (a0R k a b c true kd d vs) (by simp[h,o1])
  |false=>
   obtain⟨hs,-,-,-⟩:=DP h ho
   obtain⟨q1,q2,q3,q4,q5⟩:=eQ hs
   subst ho
   exact mo t44 (a0S k a b c false kd d vs) (by simp[h,o1,q1,q2,q3,q4,q5])
def dS {α:Type} (x:α):List α:=[x,x,x,x,x,x,x,x]
def cF (x:PK):PK:=bif x.ok then(bif x.on then⟨x.kd,hI x.kd x.d,dS x.vs,dS true,false,0,[],0⟩else x)else PK0
theorem F9 {α:Type} {a:List α} (h:a.length=8) (x0 x1 x2 x3 x4 x5 x6 x7:α):((((((((a.set 0 x0).set 1 x1).set 2 x2).set 3 x3).set 4 x4).set 5 x5).set 6 x6).set 7 x7)=[x0,x1,x2,x3,x4,x5,x6,x7]:=by
 match a,h with
 |[_,_,_,_,_,_,_,_],_=>rfl
theorem a0F (k:Int) (a b:List Int) (c:List Bool) (on:Bool) (kd:Int) (d:List Int) (vs:Int):aD tt (a9 T44) ([]) 100 Tryz.f21 [.agg [.int .i64 k,.view none (.ints .i64 a) a.length 1 none,.view none (.ints .i64 b) b.length 1 none,.view none (.bools c) c.length 1 none,.bool on,.int .i64 kd,.view none (.ints .i64 d) d.length 1 none,.int .i64 vs]] [] [(0,true)]=
  some ⟨.agg [.int .i64 0,.nils,.nils,.nils,.bool false,.int .i64 0,.nils,.int .i64 0],[],(decide (d.length≤274877906944)&&((!bC k a b c on kd d vs)&&true)),[]⟩:=by kernel_rfl
theorem a0G (k:Int) (a b:List Int) (c:List Bool) (on:Bool) (kd:Int) (d:List Int) (vs:Int):aD tt (a9 T44) ([]) 100 Tryz.f21 [.agg [.int .i64 k,.view none (.ints .i64 a) a.length 1 none,.view none (.ints .i64 b) b.length 1 none,.view none (.bools c) c.length 1 none,.bool on,.int .i64 kd,.view none (.ints .i64 d) d.length 1 none,.int .i64 vs]] [] [(0,false),(0,true)]=
  some ⟨.agg [.int .i64 k,.sl 0 0 a.length 1 none,.sl 1 0 b.length 1 none,.sl 2 0 c.length 1 none,.bool on,.int .i64 kd,.sl 3 0 d.length 1 none,.int .i64 vs],[.live (.ints .i64 a),.live (.ints .i64 b),.live (.bools c),.live (.ints .i64 d)],(decide (d.length≤274877906944)&&(!!bC k a b c on kd d vs&&(decide (a.length≤274877906944)&&(decide (b.length≤274877906944)&&(decide (c.length≤274877906944)&&(decide (d.length≤274877906944)&&((!on)&&true))))))),[]⟩:=by kernel_rfl
theorem a0H (k:Int) (a b:List Int) (c:List Bool) (on:Bool) (kd:Int) (d:List Int) (vs:Int):aD tt (a9 T44) ([]) 100 Tryz.f21 [.agg [.int .i64 k,.view none (.ints .i64 a) a.length 1 none,.view none (.ints .i64 b) b.length 1 none,.view none (.bools c) c.length 1 none,.bool on,.int .i64 kd,.view none (.ints .i64 d) d.length 1 none,.int .i64 vs]] [] [(0,false),(0,false)]=
  some ⟨.agg [.int .i64 kd,.sl 0 0 a.length 1 none,.sl 1 0 b.length 1 none,.sl 2 0 c.length 1 none,.bool false,.int .i64 0,.nils,.int .i64 0],[.live (.ints .i64 ((((((((a.set 0 (c8 kd [ifI (aE d 4) (d.getD 0 0),ifI (aE d 4) (d.getD 1 0),ifI (aE d 4) (d.getD 2 0),ifI (aE d 4) (d.getD 3 0)] 0)).set 1 (c8 kd [ifI (aE d 4) (d.getD 0 0),ifI (aE d 4) (d.getD 1 0),ifI (aE d 4) (d.getD 2 0),ifI (aE d 4) (d.getD 3 0)] 1)).set 2 (c8 kd [ifI (aE d 4) (d.getD 0 0),ifI (aE d 4) (d.getD 1 0),ifI (aE d 4) (d.getD 2 0),ifI (aE d 4) (d.getD 3 0)] 2)).set 3 (c8 kd [ifI (aE d 4) (d.getD 0 0),ifI (aE d 4) (d.getD 1 0),ifI (aE d 4) (d.getD 2 0),ifI (aE d 4) (d.getD 3 0)] 3)).set 4 (c8 kd [ifI (aE d 4) (d.getD 0 0),ifI (aE d 4) (d.getD 1 0),ifI (aE d 4) (d.getD 2 0),ifI (aE d 4) (d.getD 3 0)] 4)).set 5 (c8 kd [ifI (aE d 4) (d.getD 0 0),ifI (aE d 4) (d.getD 1 0),ifI (aE d 4) (d.getD 2 0),ifI (aE d 4) (d.getD 3 0)] 5)).set 6 (c8 kd [ifI (aE d 4) (d.getD 0 0),ifI (aE d 4) (d.getD 1 0),ifI (aE d 4) (d.getD 2 0),ifI (aE d 4) (d.getD 3 0)] 6)).set 7 (c8 kd [ifI (aE d 4) (d.getD 0 0),ifI (aE d 4) (d.getD 1 0),ifI (aE d 4) (d.getD 2 0),ifI (aE d 4) (d.getD 3 0)] 7))),.live (.ints .i64 ((((((((b.set 0 vs).set 1 vs).set 2 vs).set 3 vs).set 4 vs).set 5 vs).set 6 vs).set 7 vs)),.live (.bools ((((((((c.set 0 true).set 1 true).set 2 true).set 3 true).set 4 true).set 5 true).set 6 true).set 7 true))],(decide (d.length≤274877906944)&&(!!bC k a b c on kd d vs&&(decide (a.length≤274877906944)&&(decide (b.length≤274877906944)&&(decide (c.length≤274877906944)&&(decide (d.length≤274877906944)&&((!!on)&&((decide (d.length=d.length)&&(decide (d.length≤274877906944)&&(bet kd 1 2&&(fok (ifI (aE d 4) (d.getD 0 0))&&(fok (ifI (aE d 4) (d.getD 1 0))&&(fok (ifI (aE d 4) (d.getD 2 0))&&(fok (ifI (aE d 4) (d.getD 3 0))&&(decide (0<(↑a.length:Int))&&(decide (0<a.length)&&(decide (0<(↑b.length:Int))&&(decide (0<b.length)&&(decide (0<(↑c.length:Int))&&(decide (0<c.length)&&true)))))&&true))))))))&&((decide (d.length=d.length)&&(decide (d.length≤274877906944)&&(bet kd 1 2&&(fok (ifI (aE d 4) (d.getD 0 0))&&(fok (ifI (aE d 4) (d.getD 1 0))&&(fok (ifI (aE d 4) (d.getD 2 0))&&(fok (ifI (aE d 4) (d.getD 3 0))&&(decide (1<(↑a.length:Int))&&(decide (1<(a.set 0 (c8 kd [ifI (aE d 4) (d.getD 0 0),ifI (aE d 4) (d.getD 1 0),ifI (aE d 4) (d.getD 2 0),ifI (aE d 4) (d.getD 3 0)] 0)).length)&&(decide (1<(↑b.length:Int))&&(decide (1<(b.set 0 vs).length)&&(decide (1<(↑c.length:Int))&&(decide (1<(c.set 0 true).length)&&true)))))&&true))))))))&&((decide (d.length=d.length)&&(decide (d.length≤274877906944)&&(bet kd 1 2&&(fok (ifI (aE d 4) (d.getD 0 0))&&(fok (ifI (aE d 4) (d.getD 1 0))&&(fok (ifI (aE d 4) (d.getD 2 0))&&(fok (ifI (aE d 4) (d.getD 3 0))&&(decide (2<(↑a.length:Int))&&(decide (2<((a.set 0 (c8 kd [ifI (aE d 4) (d.getD 0 0),ifI (aE d 4) (d.getD 1 0),ifI (aE d 4) (d.getD 2 0),ifI (aE d 4) (d.getD 3 0)] 0)).set 1 (c8 kd [ifI (aE d 4) (d.getD 0 0),ifI (aE d 4) (d.getD 1 0),ifI (aE d 4) (d.getD 2 0),ifI (aE d 4) (d.getD 3 0)] 1)).length)&&(decide (2<(↑b.length:Int))&&(decide (2<((b.set 0 vs).set 1 vs).length)&&(decide (2<(↑c.length:Int))&&(decide (2<((c.set 0 true).set 1 true).length)&&true)))))&&true))))))))&&((decide (d.length=d.length)&&(decide (d.length≤274877906944)&&(bet kd 1 2&&(fok (ifI (aE d 4) (d.getD 0 0))&&(fok (ifI (aE d 4) (d.getD 1 0))&&(fok (ifI (aE d 4) (d.getD 2 0))&&(fok (ifI (aE d 4) (d.getD 3 0))&&(decide (3<(↑a.length:Int))&&(decide (3<(((a.set 0 (c8 kd [ifI (aE d 4) (d.getD 0 0),ifI (aE d 4) (d.getD 1 0),ifI (aE d 4) (d.getD 2 0),ifI (aE d 4) (d.getD 3 0)] 0)).set 1 (c8 kd [ifI (aE d 4) (d.getD 0 0),ifI (aE d 4) (d.getD 1 0),ifI (aE d 4) (d.getD 2 0),ifI (aE d 4) (d.getD 3 0)] 1)).set 2 (c8 kd [ifI (aE d 4) (d.getD 0 0),ifI (aE d 4) (d.getD 1 0),ifI (aE d 4) (d.getD 2 0),ifI (aE d 4) (d.getD 3 0)] 2)).length)&&(decide (3<(↑b.length:Int))&&(decide (3<(((b.set 0 vs).set 1 vs).set 2 vs).length)&&(decide (3<(↑c.length:Int))&&(decide (3<(((c.set 0 true).set 1 true).set 2 true).length)&&true)))))&&true))))))))&&((decide (d.length=d.length)&&(decide (d.length≤274877906944)&&(bet kd 1 2&&(fok (ifI (aE d 4) (d.getD 0 0))&&(fok (ifI (aE d 4) (d.getD 1 0))&&(fok (ifI (aE d 4) (d.getD 2 0))&&(fok (ifI (aE d 4) (d.getD 3 0))&&(decide (4<(↑a.length:Int))&&(decide (4<((((a.set 0 (c8 kd [ifI (aE d 4) (d.getD 0 0),ifI (aE d 4) (d.getD 1 0),ifI (aE d 4) (d.getD 2 0),ifI (aE d 4) (d.getD 3 0)] 0)).set 1 (c8 kd [ifI (aE d 4) (d.getD 0 0),ifI (aE d 4) (d.getD 1 0),ifI (aE d 4) (d.getD 2 0),ifI (aE d 4) (d.getD 3 0)] 1)).set 2 (c8 kd [ifI (aE d 4) (d.getD 0 0),ifI (aE d 4) (d.getD 1 0),ifI (aE d 4) (d.getD 2 0),ifI (aE d 4) (d.getD 3 0)] 2)).set 3 (c8 kd [ifI (aE d 4) (d.getD 0 0),ifI (aE d 4) (d.getD 1 0),ifI (aE d 4) (d.getD 2 0),ifI (aE d 4) (d.getD 3 0)] 3)).length)&&(decide (4<(↑b.length:Int))&&(decide (4<((((b.set 0 vs).set 1 vs).set 2 vs).set 3 vs).length)&&(decide (4<(↑c.length:Int))&&(decide (4<((((c.set 0 true).set 1 true).set 2 true).set 3 true).length)&&true)))))&&true))))))))&&((decide (d.length=d.length)&&(decide (d.length≤274877906944)&&(bet kd 1 2&&(fok (ifI (aE d 4) (d.getD 0 0))&&(fok (ifI (aE d 4) (d.getD 1 0))&&(fok (ifI (aE d 4) (d.getD 2 0))&&(fok (ifI (aE d 4) (d.getD 3 0))&&(decide (5<(↑a.length:Int))&&(decide (5<(((((a.set 0 (c8 kd [ifI (aE d 4) (d.getD 0 0),ifI (aE d 4) (d.getD 1 0),ifI (aE d 4) (d.getD 2 0),ifI (aE d 4) (d.getD 3 0)] 0)).set 1 (c8 kd [ifI (aE d 4) (d.getD 0 0),ifI (aE d 4) (d.getD 1 0),ifI (aE d 4) (d.getD 2 0),ifI (aE d 4) (d.getD 3 0)] 1)).set 2 (c8 kd [ifI (aE d 4) (d.getD 0 0),ifI (aE d 4) (d.getD 1 0),ifI (aE d 4) (d.getD 2 0),ifI (aE d 4) (d.getD 3 0)] 2)).set 3 (c8 kd [ifI (aE d 4) (d.getD 0 0),ifI (aE d 4) (d.getD 1 0),ifI (aE d 4) (d.getD 2 0),ifI (aE d 4) (d.getD 3 0)] 3)).set 4 (c8 kd [ifI (aE d 4) (d.getD 0 0),ifI (aE d 4) (d.getD 1 0),ifI (aE d 4) (d.getD 2 0),ifI (aE d 4) (d.getD 3 0)] 4)).length)&&(decide (5<(↑b.length:Int))&&(decide (5<(((((b.set 0 vs).set 1 vs).set 2 vs).set 3 vs).set 4 vs).length)&&(decide (5<(↑c.length:Int))&&(decide (5<(((((c.set 0 true).set 1 true).set 2 true).set 3 true).set 4 true).length)&&true)))))&&true))))))))&&((decide (d.length=d.length)&&(decide (d.length≤274877906944)&&(bet kd 1 2&&(fok (ifI (aE d 4) (d.getD 0 0))&&(fok (ifI (aE d 4) (d.getD 1 0))&&(fok (ifI (aE d 4) (d.getD 2 0))&&(fok (ifI (aE d 4) (d.getD 3 0))&&(decide (6<(↑a.length:Int))&&(decide (6<((((((a.set 0 (c8 kd [ifI (aE d 4) (d.getD 0 0),ifI (aE d 4) (d.getD 1 0),ifI (aE d 4) (d.getD 2 0),ifI (aE d 4) (d.getD 3 0)] 0)).set 1 (c8 kd [ifI (aE d 4) (d.getD 0 0),ifI (aE d 4) (d.getD 1 0),ifI (aE d 4) (d.getD 2 0),ifI (aE d 4) (d.getD 3 0)] 1)).set 2 (c8 kd [ifI (aE d 4) (d.getD 0 0),ifI (aE d 4) (d.getD 1 0),ifI (aE d 4) (d.getD 2 0),ifI (aE d 4) (d.getD 3 0)] 2)).set 3 (c8 kd [ifI (aE d 4) (d.getD 0 0),ifI (aE d 4) (d.getD 1 0),ifI (aE d 4) (d.getD 2 0),ifI (aE d 4) (d.getD 3 0)] 3)).set 4 (c8 kd [ifI (aE d 4) (d.getD 0 0),ifI (aE d 4) (d.getD 1 0),ifI (aE d 4) (d.getD 2 0),ifI (aE d 4) (d.getD 3 0)] 4)).set 5 (c8 kd [ifI (aE d 4) (d.getD 0 0),ifI (aE d 4) (d.getD 1 0),ifI (aE d 4) (d.getD 2 0),ifI (aE d 4) (d.getD 3 0)] 5)).length)&&(decide (6<(↑b.length:Int))&&(decide (6<((((((b.set 0 vs).set 1 vs).set 2 vs).set 3 vs).set 4 vs).set 5 vs).length)&&(decide (6<(↑c.length:Int))&&(decide (6<((((((c.set 0 true).set 1 true).set 2 true).set 3 true).set 4 true).set 5 true).length)&&true)))))&&true))))))))&&((decide (d.length=d.length)&&(decide (d.length≤274877906944)&&(bet kd 1 2&&(fok (ifI (aE d 4) (d.getD 0 0))&&(fok (ifI (aE d 4) (d.getD 1 0))&&(fok (ifI (aE d 4) (d.getD 2 0))&&(fok (ifI (aE d 4) (d.getD 3 0))&&(decide (7<(↑a.length:Int))&&(decide (7<(((((((a.set 0 (c8 kd [ifI (aE d 4) (d.getD 0 0),ifI (aE d 4) (d.getD 1 0),ifI (aE d 4) (d.getD 2 0),ifI (aE d 4) (d.getD 3 0)] 0)).set 1 (c8 kd [ifI (aE d 4) (d.getD 0 0),ifI (aE d 4) (d.getD 1 0),ifI (aE d 4) (d.getD 2 0),ifI (aE d 4) (d.getD 3 0)] 1)).set 2 (c8 kd [ifI (aE d 4) (d.getD 0 0),ifI (aE d 4) (d.getD 1 0),ifI (aE d 4) (d.getD 2 0),ifI (aE d 4) (d.getD 3 0)] 2)).set 3 (c8 kd [ifI (aE d 4) (d.getD 0 0),ifI (aE d 4) (d.getD 1 0),ifI (aE d 4) (d.getD 2 0),ifI (aE d 4) (d.getD 3 0)] 3)).set 4 (c8 kd [ifI (aE d 4) (d.getD 0 0),ifI (aE d 4) (d.getD 1 0),ifI (aE d 4) (d.getD 2 0),ifI (aE d 4) (d.getD 3 0)] 4)).set 5 (c8 kd [ifI (aE d 4) (d.getD 0 0),ifI (aE d 4) (d.getD 1 0),ifI (aE d 4) (d.getD 2 0),ifI (aE d 4) (d.getD 3 0)] 5)).set 6 (c8 kd [ifI (aE d 4) (d.getD 0 0),ifI (aE d 4) (d.getD 1 0),ifI (aE d 4) (d.getD 2 0),ifI (aE d 4) (d.getD 3 0)] 6)).length)&&(decide (7<(↑b.length:Int))&&(decide (7<(((((((b.set 0 vs).set 1 vs).set 2 vs).set 3 vs).set 4 vs).set 5 vs).set 6 vs).length)&&(decide (7<(↑c.length:Int))&&(decide (7<(((((((c.set 0 true).set 1 true).set 2 true).set 3 true).set 4 true).set 5 true).set 6 true).length)&&true)))))&&true))))))))&&true))))))))))))))),[]⟩:=by kernel_rfl
def BC:aN:=fun args h=>
 match args,h with
 |[.agg [.int .i64 k,.view _ (.ints .i64 a) n1 1 _,.view _ (.ints .i64 b) n2 1 _,.view _ (.bools c) n3 1 _,.bool on,.int .i64 kd,.view _ (.ints .i64 d) n4 1 _,.int .i64 vs]],[]=>
  some (.agg (cF ⟨k,a,b,c,on,kd,d,vs⟩).cells,[.live (.ints .i64 (cF ⟨k,a,b,c,on,kd,d,vs⟩).a),.live (.ints .i64 (cF ⟨k,a,b,c,on,kd,d,vs⟩).b),.live (.bools (cF ⟨k,a,b,c,on,kd,d,vs⟩).c),.live (.ints .i64 (cF ⟨k,a,b,c,on,kd,d,vs⟩).d)],[decide (d.length≤274877906944)])
 |_,_=>none
theorem m16:aT Tryz.prog 21 BC:=by
 intro args h res h' o hnorm he ho
 unfold BC at he
 split at he
 case h_2=>cases he
 rename_i k nl1 a n1 cap1 nl2 b n2 cap2 nl3 c n3 cap3 on kd nl4 d n4 cap4 vs
 simp only[Option.some.injEq,Prod.mk.injEq]at he
 obtain⟨rfl,rfl,rfl⟩:=he
 simp only[List.mem_cons,List.not_mem_nil,or_false,forall_eq_or_imp,forall_eq,decide_eq_true_eq]at ho
 have o1:=ho
 simp only[bE,AV.norm,bF,aF.norm,Con.size,List.cons.injEq,AV.c.injEq,AV.agg.injEq,aF.view.injEq,aL,true_and,and_true]at hnorm
 obtain⟨⟨rfl,rfl,rfl⟩,⟨rfl,rfl,rfl⟩,⟨rfl,rfl,rfl⟩,rfl,rfl,rfl⟩:=hnorm
 unfold cF PK.ok
 dsimp only
 cases h:bC k a b c on kd d vs with
 |false=>exact w7 (h:=[]) (mo t44 (a0F k a b c on kd d vs) (by simp only[h,o1];rfl))
 |true=>
  obtain⟨ha,hb,hc⟩:=dH h
  cases ho:on with
  |false=>subst ho;exact mo t44 (a0G k a b c false kd d vs) (by simp[h,o1,ha,hb,hc])
  |true=>
   obtain⟨h1,h2,h3⟩:=CC h ho
   have hf:=oR h1
   subst ho
   have e:=a0H k a b c true kd d vs
   rw[F9 ha,F9 hb,F9 hc]at e
   have mm:=mo (f:=21) t44 e (by simp only[h,h1,h2,ifI,hf,List.length_set,ha,hb,hc,bS,rpS];simp;omega)
   have:=mm.nil1 (es:=1) (c0:=.ints .i64 []) rfl rfl
   rw[ha,hb,hc]at this⊢
   exact this
def dC (x:PK) (at_:Int):PK:=bif x.ok&&bet at_ 0 7 then(bif x.on then⟨x.k,x.a.set at_.toNat ((hI x.kd x.d).getD at_.toNat 0),x.b.set at_.toNat x.vs,x.c.set at_.toNat true,x.on,x.kd,x.d,x.vs⟩else x)else PK0
def pI (x:PK) (at_:Int):Bool:=bif x.ok&&bet at_ 0 7 then x.on else false
theorem a0V (k:Int) (a b:List Int) (c:List Bool) (on:Bool) (kd:Int) (d:List Int) (vs:Int) (x:Int):aD tt (a9 T44) ([]) 100 Tryz.f19 [.agg [.int .i64 k,.view none (.ints .i64 a) a.length 1 none,.view none (.ints .i64 b) b.length 1 none,.view none (.bools c) c.length 1 none,.bool on,.int .i64 kd,.view none (.ints .i64 d) d.length 1 none,.int .i64 vs],.c (.int .i64 x)] [] [(0,true)]=
  some ⟨.tup [.agg [.int .i64 0,.nils,.nils,.nils,.bool false,.int .i64 0,.nils,.int .i64 0],.c (.bool false)],[],(decide (d.length≤274877906944)&&(rp3 (!bC k a b c on kd d vs) ((!bC k a b c on kd d vs)&&true))),[]⟩:=by kernel_rfl
theorem a0W (k:Int) (a b:List Int) (c:List Bool) (on:Bool) (kd:Int) (d:List Int) (vs:Int) (x:Int):aD tt (a9 T44) ([]) 100 Tryz.f19 [.agg [.int .i64 k,.view none (.ints .i64 a) a.length 1 none,.view none (.ints .i64 b) b.length 1 none,.view none (.bools c) c.length 1 none,.bool on,.int .i64 kd,.view none (.ints .i64 d) d.length 1 none,.int .i64 vs],.c (.int .i64 x)] [] [(0,false),(0,true)]=
  some ⟨.tup [.agg [.int .i64 0,.nils,.nils,.nils,.bool false,.int .i64 0,.nils,.int .i64 0],.c (.bool false)],[],(decide (d.length≤274877906944)&&(rp3 (!!bC k a b c on kd d vs) ((bif !bC k a b c on kd d vs then true else !bet x 0 7)&&true))),[]⟩:=by kernel_rfl
theorem a0X (k:Int) (a b:List Int) (c:List Bool) (on:Bool) (kd:Int) (d:List Int) (vs:Int) (x:Int):aD tt (a9 T44) ([]) 100 Tryz.f19 [.agg [.int .i64 k,.view none (.ints .i64 a) a.length 1 none,.view none (.ints .i64 b) b.length 1 none,.view none (.bools c) c.length 1 none,.bool on,.int .i64 kd,.view none (.ints .i64 d) d.length 1 none,.int .i64 vs],.c (.int .i64 x)] [] [(0,false),(0,false),(0,true)]=
  some ⟨.tup [.agg [.int .i64 k,.sl 0 0 a.length 1 none,.sl 1 0 b.length 1 none,.sl 2 0 c.length 1 none,.bool on,.int .i64 kd,.sl 3 0 d.length 1 none,.int .i64 vs],.c (.bool on)],[.live (.ints .i64 (a.set x.toNat ((fT kd [ifI (aE d 4) (d.getD 0 0),ifI (aE d 4) (d.getD 1 0),ifI (aE d 4) (d.getD 2 0),ifI (aE d 4) (d.getD 3 0)]).getD x.toNat 0))),.live (.ints .i64 (b.set x.toNat vs)),.live (.bools (c.set x.toNat true)),.live (.ints .i64 d)],(decide (d.length≤274877906944)&&(rp3 (!!bC k a b c on kd d vs) ((!bif !bC k a b c on kd d vs then true else !bet x 0 7)&&(decide (a.length≤274877906944)&&(decide (b.length≤274877906944)&&(decide (c.length≤274877906944)&&(decide (d.length≤274877906944)&&((on)&&((decide (d.length=d.length)&&(decide (d.length≤274877906944)&&(bet kd 1 2&&(fok (ifI (aE d 4) (d.getD 0 0))&&(fok (ifI (aE d 4) (d.getD 1 0))&&(fok (ifI (aE d 4) (d.getD 2 0))&&(fok (ifI (aE d 4) (d.getD 3 0))&&(decide (0≤x)&&(decide (x<8)&&(decide (x.toNat<(fT kd [ifI (aE d 4) (d.getD 0 0),ifI (aE d 4) (d.getD 1 0),ifI (aE d 4) (d.getD 2 0),ifI (aE d 4) (d.getD 3 0)]).length)&&(decide (0≤x)&&(decide (x<(↑a.length:Int))&&(decide (x.toNat<a.length)&&(decide (0≤x)&&(decide (x<(↑b.length:Int))&&(decide (x.toNat<b.length)&&(decide (0≤x)&&(decide (x<(↑c.length:Int))&&(decide (x.toNat<c.length)&&true))))))))&&true)))))))))))&&true))))))))),[]⟩:=by kernel_rfl
theorem a0Y (k:Int) (a b:List Int) (c:List Bool) (on:Bool) (kd:Int) (d:List Int) (vs:Int) (x:Int):aD tt (a9 T44) ([]) 100 Tryz.f19 [.agg [.int .i64 k,.view none (.ints .i64 a) a.length 1 none,.view none (.ints .i64 b) b.length 1 none,.view none (.bools c) c.length 1 none,.bool on,.int .i64 kd,.view none (.ints .i64 d) d.length 1 none,.int .i64 vs],.c (.int .i64 x)] [] [(0,false),(0,false),(0,false)]=
  some ⟨.tup [.agg [.int .i64 k,.sl 0 0 a.length 1 none,.sl 1 0 b.length 1 none,.sl 2 0 c.length 1 none,.bool on,.int .i64 kd,.sl 3 0 d.length 1 none,.int .i64 vs],.c (.bool on)],[.live (.ints .i64 a),.live (.ints .i64 b),.live (.bools c),.live (.ints .i64 d)],(decide (d.length≤274877906944)&&(rp3 (!!bC k a b c on kd d vs) ((!bif !bC k a b c on kd d vs then true else !bet x 0 7)&&(decide (a.length≤274877906944)&&(decide (b.length≤274877906944)&&(decide (c.length≤274877906944)&&(decide (d.length≤274877906944)&&((!on)&&true)))))))),[]⟩:=by kernel_rfl
def wO:aN:=fun args h=>
 match args,h with
 |[.agg [.int .i64 k,.view _ (.ints .i64 a) n1 1 _,.view _ (.ints .i64 b) n2 1 _,.view _ (.bools c) n3 1 _,.bool on,.int .i64 kd,.view _ (.ints .i64 d) n4 1 _,.int .i64 vs],.c (.int .i64 x)],[]=>
  some (.tup [.agg (dC ⟨k,a,b,c,on,kd,d,vs⟩ x).cells,.c (.bool (pI ⟨k,a,b,c,on,kd,d,vs⟩ x))],[.live (.ints .i64 (dC ⟨k,a,b,c,on,kd,d,vs⟩ x).a),.live (.ints .i64 (dC ⟨k,a,b,c,on,kd,d,vs⟩ x).b),.live (.bools (dC ⟨k,a,b,c,on,kd,d,vs⟩ x).c),.live (.ints .i64 (dC ⟨k,a,b,c,on,kd,d,vs⟩ x).d)],[decide (d.length≤274877906944)])
 |_,_=>none
theorem m26:aT Tryz.prog 19 wO:=by
 intro args h res h' o hnorm he ho
 unfold wO at he
 split at he
 case h_2=>cases he
 rename_i k nl1 a n1 cap1 nl2 b n2 cap2 nl3 c n3 cap3 on kd nl4 d n4 cap4 vs x
 simp only[Option.some.injEq,Prod.mk.injEq]at he
 obtain⟨rfl,rfl,rfl⟩:=he
 simp only[List.mem_cons,List.not_mem_nil,or_false,forall_eq_or_imp,forall_eq,decide_eq_true_eq]at ho
 have o1:=ho
 simp only[bE,AV.norm,bF,aF.norm,Con.size,List.cons.injEq,AV.c.injEq,AV.agg.injEq,aF.view.injEq,aL,true_and,and_true]at hnorm
 obtain⟨⟨rfl,rfl,rfl⟩,⟨rfl,rfl,rfl⟩,⟨rfl,rfl,rfl⟩,rfl,rfl,rfl⟩:=hnorm
 unfold dC pI PK.ok
 dsimp only
 cases h:bC k a b c on kd d vs with
 |false=>exact gJ (mo t44 (a0V k a b c on kd d vs x) (by simp[h,o1]))
 |true=>
  obtain⟨ha,hb,hc⟩:=dH h
  cases hx:bet x 0 7 with
  |false=>exact gJ (mo t44 (a0W k a b c on kd d vs x) (by simp[h,hx,o1]))
  |true=>
   have hx':=aX.1 hx
   cases ho:on with
   |false=>subst ho;exact mo t44 (a0Y k a b c false kd d vs x) (by simp[h,hx,o1,ha,hb,hc])
   |true=>
    obtain⟨h1,h2,h3⟩:=CC h ho
    have hf:=oR h1
    subst ho
    have mm:=mo (f:=19) t44 (a0X k a b c true kd d vs x) (by simp only[h,hx,h1,h2,ifI,hf,List.length_set,ha,hb,hc,fT,List.length_cons,List.length_nil,bS,rpS];omega)
    have e1:(a.set x.toNat ((hI kd d).getD x.toNat 0)).length=a.length:=List.length_set
    have e2:(b.set x.toNat vs).length=b.length:=List.length_set
    have e3:(c.set x.toNat true).length=c.length:=List.length_set
    show bA _ _ _ _ (.tup [.agg [.int .i64 k,.sl 0 0 (a.set x.toNat ((hI kd d).getD x.toNat 0)).length 1 none,.sl 1 0 (b.set x.toNat vs).length 1 none,.sl 2 0 (c.set x.toNat true).length 1 none,.bool true,.int .i64 kd,.sl 3 0 d.length 1 none,.int .i64 vs],.c (.bool true)]) _
    rw[e1,e2,e3]
    exact mm
end
section
def d6 (x:PK) (kind:Int) (e:List Int):PK:=
 bif x.ok&&(bet kind 1 2&&aE e 4)then(bif x.on||(gH x.b x.c==99)then x else⟨x.k,x.a,x.b,x.c,true,kind,e,gH x.b x.c+1⟩)else PK0
def gN (x:PK) (kind:Int) (e:List Int):Bool:=bif x.ok&&(bet kind 1 2&&aE e 4)then !(x.on||(gH x.b x.c==99))else false
theorem a15 (k:Int) (a b:List Int) (c:List Bool) (on:Bool) (kd:Int) (d:List Int) (vs:Int) (x:Int) (e:List Int):aD tt (a9 T44) ([]) 100 Tryz.f18 [.agg [.int .i64 k,.view none (.ints .i64 a) a.length 1 none,.view none (.ints .i64 b) b.length 1 none,.view none (.bools c) c.length 1 none,.bool on,.int .i64 kd,.view none (.ints .i64 d) d.length 1 none,.int .i64 vs],.c (.int .i64 x),.c (.view none (.ints .i64 e) e.length 1 none)] [] [(0,true)]=
  some ⟨.tup [.agg [.int .i64 0,.nils,.nils,.nils,.bool false,.int .i64 0,.nils,.int .i64 0],.c (.bool false)],[],(decide (d.length≤274877906944)&&(rp3 (!bC k a b c on kd d vs) ((!bC k a b c on kd d vs)&&true))),[]⟩:=by kernel_rfl
theorem a16 (k:Int) (a b:List Int) (c:List Bool) (on:Bool) (kd:Int) (d:List Int) (vs:Int) (x:Int) (e:List Int):aD tt (a9 T44) ([]) 100 Tryz.f18 [.agg [.int .i64 k,.view none (.ints .i64 a) a.length 1 none,.view none (.ints .i64 b) b.length 1 none,.view none (.bools c) c.length 1 none,.bool on,.int .i64 kd,.view none (.ints .i64 d) d.length 1 none,.int .i64 vs],.c (.int .i64 x),.c (.view none (.ints .i64 e) e.length 1 none)] [] [(0,false),(0,true)]=
  some ⟨.tup [.agg [.int .i64 0,.nils,.nils,.nils,.bool false,.int .i64 0,.nils,.int .i64 0],.c (.bool false)],[],(decide (d.length≤274877906944)&&(rp3 (!!bC k a b c on kd d vs) (rp4 (bif !bC k a b c on kd d vs then true else !bet x 1 2) true))),[]⟩:=by kernel_rfl
theorem a17 (k:Int) (a b:List Int) (c:List Bool) (on:Bool) (kd:Int) (d:List Int) (vs:Int) (x:Int) (e:List Int):aD tt (a9 T44) ([]) 100 Tryz.f18 [.agg [.int .i64 k,.view none (.ints .i64 a) a.length 1 none,.view none (.ints .i64 b) b.length 1 none,.view none (.bools c) c.length 1 none,.bool on,.int .i64 kd,.view none (.ints .i64 d) d.length 1 none,.int .i64 vs],.c (.int .i64 x),.c (.view none (.ints .i64 e) e.length 1 none)] [] [(0,false),(0,false),(0,true)]=
  some ⟨.tup [.agg [.int .i64 0,.nils,.nils,.nils,.bool false,.int .i64 0,.nils,.int .i64 0],.c (.bool false)],[],(decide (d.length≤274877906944)&&(rp3 (!!bC k a b c on kd d vs) (rp2 (!bif !bC k a b c on kd d vs then true else !bet x 1 2) (decide (e.length≤274877906944)&&((!bif !bC k a b c on kd d vs then true else !bet x 1 2)&&((bif bif !bC k a b c on kd d vs then true else !bet x 1 2 then true else !aE e 4)&&true)))))),[]⟩:=by kernel_rfl
theorem a18 (k:Int) (a b:List Int) (c:List Bool) (on:Bool) (kd:Int) (d:List Int) (vs:Int) (x:Int) (e:List Int):aD tt (a9 T44) ([]) 100 Tryz.f18 [.agg [.int .i64 k,.view none (.ints .i64 a) a.length 1 none,.view none (.ints .i64 b) b.length 1 none,.view none (.bools c) c.length 1 none,.bool on,.int .i64 kd,.view none (.ints .i64 d) d.length 1 none,.int .i64 vs],.c (.int .i64 x),.c (.view none (.ints .i64 e) e.length 1 none)] [] [(0,false),(0,false),(0,false),(0,true)]=
  some ⟨.tup [.agg [.int .i64 k,.sl 0 0 a.length 1 none,.sl 1 0 b.length 1 none,.sl 2 0 c.length 1 none,.bool on,.int .i64 kd,.sl 3 0 d.length 1 none,.int .i64 vs],.c (.bool false)],[.live (.ints .i64 a),.live (.ints .i64 b),.live (.bools c),.live (.ints .i64 d)],(decide (d.length≤274877906944)&&(rp3 (!!bC k a b c on kd d vs) (rp2 (!bif !bC k a b c on kd d vs then true else !bet x 1 2) (decide (e.length≤274877906944)&&((!bif !bC k a b c on kd d vs then true else !bet x 1 2)&&((!bif bif !bC k a b c on kd d vs then true else !bet x 1 2 then true else !aE e 4)&&(decide (a.length≤274877906944)&&(decide (b.length≤274877906944)&&(decide (c.length≤274877906944)&&(decide (d.length≤274877906944)&&(rp5 (on) true))))))))))),[]⟩:=by kernel_rfl
theorem a19 (k:Int) (a b:List Int) (c:List Bool) (on:Bool) (kd:Int) (d:List Int) (vs:Int) (x:Int) (e:List Int):aD tt (a9 T44) ([]) 100 Tryz.f18 [.agg [.int .i64 k,.view none (.ints .i64 a) a.length 1 none,.view none (.ints .i64 b) b.length 1 none,.view none (.bools c) c.length 1 none,.bool on,.int .i64 kd,.view none (.ints .i64 d) d.length 1 none,.int .i64 vs],.c (.int .i64 x),.c (.view none (.ints .i64 e) e.length 1 none)] [] [(0,false),(0,false),(0,false),(0,false),(0,true)]=
  some ⟨.tup [.agg [.int .i64 k,.sl 0 0 a.length 1 none,.sl 1 0 b.length 1 none,.sl 2 0 c.length 1 none,.bool on,.int .i64 kd,.sl 3 0 d.length 1 none,.int .i64 vs],.c (.bool false)],[.live (.ints .i64 a),.live (.ints .i64 b),.live (.bools c),.live (.ints .i64 d)],(decide (d.length≤274877906944)&&(rp3 (!!bC k a b c on kd d vs) (rp2 (!bif !bC k a b c on kd d vs then true else !bet x 1 2) (decide (e.length≤274877906944)&&((!bif !bC k a b c on kd d vs then true else !bet x 1 2)&&((!bif bif !bC k a b c on kd d vs then true else !bet x 1 2 then true else !aE e 4)&&(decide (a.length≤274877906944)&&(decide (b.length≤274877906944)&&(decide (c.length≤274877906944)&&(decide (d.length≤274877906944)&&(rp3 (!on) (decide (c.length≤8)&&(decide (b.length=c.length)&&((!on)&&((bif on then true else gH b c==99)&&true))))))))))))))),[]⟩:=by kernel_rfl
theorem a1A (k:Int) (a b:List Int) (c:List Bool) (on:Bool) (kd:Int) (d:List Int) (vs:Int) (x:Int) (e:List Int):aD tt (a9 T44) ([]) 100 Tryz.f18 [.agg [.int .i64 k,.view none (.ints .i64 a) a.length 1 none,.view none (.ints .i64 b) b.length 1 none,.view none (.bools c) c.length 1 none,.bool on,.int .i64 kd,.view none (.ints .i64 d) d.length 1 none,.int .i64 vs],.c (.int .i64 x),.c (.view none (.ints .i64 e) e.length 1 none)] [] [(0,false),(0,false),(0,false),(0,false),(0,false)]=
  some ⟨.tup [.agg [.int .i64 k,.sl 0 0 a.length 1 none,.sl 1 0 b.length 1 none,.sl 2 0 c.length 1 none,.bool true,.int .i64 x,.sl 3 0 (↑e.length:Int).toNat 1 none,.int .i64 (IntKind.i64.wrap (gH b c+1))],.c (.bool true)],[.live (.ints .i64 a),.live (.ints .i64 b),.live (.bools c),.live (.ints .i64 e)],(decide (d.length≤274877906944)&&(rp3 (!!bC k a b c on kd d vs) (rp2 (!bif !bC k a b c on kd d vs then true else !bet x 1 2) (decide (e.length≤274877906944)&&((!bif !bC k a b c on kd d vs then true else !bet x 1 2)&&((!bif bif !bC k a b c on kd d vs then true else !bet x 1 2 then true else !aE e 4)&&(decide (a.length≤274877906944)&&(decide (b.length≤274877906944)&&(decide (c.length≤274877906944)&&(decide (d.length≤274877906944)&&(rp3 (!on) (decide (c.length≤8)&&(decide (b.length=c.length)&&((!on)&&((!bif on then true else gH b c==99)&&(decide (e.length≤274877906944)&&((rp2 (decide ((↑e.length:Int)≤(↑e.length:Int))) true)&&(decide (c.length≤8)&&((decide (b.length=c.length))&&true))))))))))))))))))),[]⟩:=by kernel_rfl
theorem g6 {p:Int→Bool} (h0:p 0=true) {l:List Int} (h:l.all p=true) (i:Nat):p (l.getD i 0)=true:=by
 rw[List.getD_eq_getElem?_getD]
 cases hi:l[i]? with
 |none=>exact h0
 |some x=>exact List.all_eq_true.1 h _ (List.mem_of_getElem? hi)
theorem r8 {p:Int→Bool} {l:List Int} {i:Nat} {x:Int} (h:l.all p=true) (hx:p x=true):(l.set i x).all p=true:=by
 rw[List.all_eq_true]at h⊢
 intro y hy
 rcases List.mem_or_eq_of_mem_set hy with h'|h'
 ·exact h y h'
 ·rw[h'];exact hx
theorem E9 {p:Int→Bool} (h0:p 0=true) {b:List Int} (hb:b.all p=true) (c:List Bool):(bI b c).all p=true:=by
 have h1:(cM b (flg c)).all p=true:=bB (step:=jQ b (flg c)) (fun _ o=>o.all p=true) _ [] rfl fun i o _ h=>by
  simp only[jQ,List.all_append,List.all_cons,List.all_nil,Bool.and_true,rpS,h,g6 h0 hb,Bool.and_self]
 have swp_all: ∀(v:List Int) (j:Nat),v.all p=true→(swp v j).all p=true:=fun v j h=>r8 (r8 h (g6 h0 h _)) (g6 h0 h _)
 have h2:(cS (cM b (flg c))).all p=true:=bB (step:=fun t v=>kA (t+1) v) (fun _ o=>o.all p=true) _ _ h1 fun i o _ h=>by
  have:=hD (step:=oV (i+1)) (fun _ b=>b.all p=true) (fun c=>c.all p=true) (i+1) 0 o h (fun k b _ _ hb=>by
   unfold oV
   cases decide (b.getD (i+1-k) 0<b.getD (i+1-k-1) 0)
   ·exact⟨fun b' h=>by simp at h,fun c h=>by simp at h;rw[←h];exact hb⟩
   ·exact⟨fun b' h=>by simp at h;rw[←h];exact swp_all _ _ hb,fun c h=>by simp at h⟩)
  show(kA (i+1) o).all p=true
  unfold kA
  revert this
  cases dK (oV (i+1)) (i+1) 0 o<;>exact fun h=>h
 have h3:(jC (cS (cM b (flg c)))).all p=true:=bB (step:=xW _) (fun _ o=>o.all p=true) _ _ h2 fun i o _ h=>r8 (r8 h (g6 h0 h _)) (g6 h0 h _)
 have h4: ∀(v:List Int) (n:Nat),v.all p=true→(eS v n).all p=true:=fun v n hv=>by
  induction n with
  |zero=>rfl
  |succ n ih=>
   simp only[eS]
   cases Nat.beq n 0||v.getD n 0 !=v.getD (n-1) 0
   ·exact ih
   ·simp only[cond_true,List.all_append,List.all_cons,List.all_nil,Bool.and_true,rpS,ih,g6 h0 hv,Bool.and_self]
 exact h4 _ _ h3
theorem T1 {a b:List Int} {c:List Bool} (h:c9 (nU a b c) 8 0=true) (hb:b.length=8):(b.all fun x=>bet x 0 99)=true:=by
 rw[List.all_eq_true]
 intro x hx
 obtain⟨i,hi⟩:=List.getElem?_of_mem hx
 have hlt:=(List.getElem?_eq_some_iff.1 hi).1
 have:=bX.1 h i (by omega) (by omega)
 unfold nU at this
 have hg:b.getD i 0=x:=by rw[List.getD_eq_getElem?_getD,hi];rfl
 rw[hg]at this
 cases h1:c.getD i false with
 |true=>
  rw[h1,cond_true,Bool.and_eq_true,aX]at this
  exact aX.2 ⟨by omega,this.2.2⟩
 |false=>
  rw[h1,cond_false,Bool.and_eq_true,Bool.not_eq_true']at this
  have h2:x=0:=by simpa using this.2
  rw[h2];rfl
theorem FI {a b:List Int} {c:List Bool} (h:c9 (nU a b c) 8 0=true) (hb:b.length=8) (hc:c.length=8):bet (gH b c) 0 99=true:=
 g6 (p:=fun x=>bet x 0 99) rfl (E9 (p:=fun x=>bet x 0 99) rfl (T1 h hb) c) 0
def FO:aN:=fun args h=>
 match args,h with
 |[.agg [.int .i64 k,.view _ (.ints .i64 a) n1 1 _,.view _ (.ints .i64 b) n2 1 _,.view _ (.bools c) n3 1 _,.bool on,.int .i64 kd,.view _ (.ints .i64 d) n4 1 _,.int .i64 vs],.c (.int .i64 x),.c (.view _ (.ints .i64 e) n5 1 _)],[]=>
  some (.tup [.agg (d6 ⟨k,a,b,c,on,kd,d,vs⟩ x e).cells,.c (.bool (gN ⟨k,a,b,c,on,kd,d,vs⟩ x e))],[.live (.ints .i64 (d6 ⟨k,a,b,c,on,kd,d,vs⟩ x e).a),.live (.ints .i64 (d6 ⟨k,a,b,c,on,kd,d,vs⟩ x e).b),.live (.bools (d6 ⟨k,a,b,c,on,kd,d,vs⟩ x e).c),.live (.ints .i64 (d6 ⟨k,a,b,c,on,kd,d,vs⟩ x e).d)],[decide (d.length≤274877906944),decide (e.length≤274877906944)])
 |_,_=>none
theorem m36:aT Tryz.prog 18 FO:=by
 intro args h res h' o hnorm he ho
 unfold FO at he
 split at he
 case h_2=>cases he
 rename_i k nl1 a n1 cap1 nl2 b n2 cap2 nl3 c n3 cap3 on kd nl4 d n4 cap4 vs x nl5 e n5 cap5
 simp only[Option.some.injEq,Prod.mk.injEq]at he
 obtain⟨rfl,rfl,rfl⟩:=he
 simp only[List.mem_cons,List.not_mem_nil,or_false,forall_eq_or_imp,forall_eq,decide_eq_true_eq]at ho
 obtain⟨o1,o2⟩:=ho
 simp only[bE,AV.norm,bF,aF.norm,Con.size,List.cons.injEq,AV.c.injEq,AV.agg.injEq,aF.view.injEq,aL,true_and,and_true]at hnorm
 obtain⟨⟨⟨rfl,rfl,rfl⟩,⟨rfl,rfl,rfl⟩,⟨rfl,rfl,rfl⟩,rfl,rfl,rfl⟩,rfl,rfl,rfl⟩:=hnorm
 unfold d6 gN PK.ok
 dsimp only
 cases h:bC k a b c on kd d vs with
 |false=>exact gJ (mo t44 (a15 k a b c on kd d vs x e) (by simp[h,o1]))
 |true=>
  obtain⟨ha,hb,hc⟩:=dH h
  cases hx:bet x 1 2 with
  |false=>exact gJ (mo t44 (a16 k a b c on kd d vs x e) (by simp[h,hx,o1]))
  |true=>
   cases he:aE e 4 with
   |false=>exact gJ (mo t44 (a17 k a b c on kd d vs x e) (by simp[h,hx,he,o1,o2]))
   |true=>
    cases ho:on with
    |true=>
     subst ho
     exact mo t44 (a18 k a b c true kd d vs x e) (by simp[h,hx,he,o1,o2,ha,hb,hc])
    |false=>
     obtain⟨hs,-,-,-⟩:=DP h ho
     subst ho
     simp only[bU,Bool.and_eq_true,rpS]at hs
     have ht:=aX.1 (FI hs.2.2.1 hb hc)
     cases hT:gH b c==99 with
     |true=>exact mo t44 (a19 k a b c false kd d vs x e) (by simp[h,hx,he,hT,o1,o2,ha,hb,hc])
     |false=>
      have e6:=a1A k a b c false kd d vs x e
      rw[aB (by omega) (by omega)]at e6
      exact mo t44 e6 (by simp[h,hx,he,hT,o1,o2,ha,hb,hc])
def mX (x:PK) (at_:Int):PK:=⟨x.k,x.a.set at_.toNat 0,x.b.set at_.toNat 0,x.c.set at_.toNat false,x.on,x.kd,x.d,x.vs⟩
def gC (x:PK) (at_:Int):PK:=bif x.ok&&bet at_ 0 7 then(bif !rdS x.k (mX x at_).a (mX x at_).b (mX x at_).c&& !x.on then x else mX x at_)else PK0
noncomputable def T45:List bD:=[⟨20,[],nm wF⟩,⟨21,[],nm BC⟩,⟨19,[],nm wO⟩,⟨18,[],nm FO⟩]++T44
theorem e45:a6 Tryz.prog T45:=by
 refine a6.append ?_ e44
 intro e he
 simp only[List.mem_cons,List.not_mem_nil,or_false]at he
 rcases he with rfl|rfl|rfl|rfl
 ·exact m20.ok
 ·exact m16.ok
 ·exact m26.ok
 ·exact m36.ok
theorem t45:bJ Tryz.prog (a9 T45):=aM e45
theorem a1I (k:Int) (a b:List Int) (c:List Bool) (on:Bool) (kd:Int) (d:List Int) (vs:Int) (x:Int):aD tt (a9 T45) ([]) 100 Tryz.f89 [.agg [.int .i64 k,.view none (.ints .i64 a) a.length 1 none,.view none (.ints .i64 b) b.length 1 none,.view none (.bools c) c.length 1 none,.bool on,.int .i64 kd,.view none (.ints .i64 d) d.length 1 none,.int .i64 vs],.c (.int .i64 x)] [] [(0,true)]=
  some ⟨.tup [.agg [.int .i64 0,.nils,.nils,.nils,.bool false,.int .i64 0,.nils,.int .i64 0],.c (.bool false)],[],(decide (d.length≤274877906944)&&(rp3 (!bC k a b c on kd d vs) ((!bC k a b c on kd d vs)&&true))),[]⟩:=by kernel_rfl
theorem a1J (k:Int) (a b:List Int) (c:List Bool) (on:Bool) (kd:Int) (d:List Int) (vs:Int) (x:Int):aD tt (a9 T45) ([]) 100 Tryz.f89 [.agg [.int .i64 k,.view none (.ints .i64 a) a.length 1 none,.view none (.ints .i64 b) b.length 1 none,.view none (.bools c) c.length 1 none,.bool on,.int .i64 kd,.view none (.ints .i64 d) d.length 1 none,.int .i64 vs],.c (.int .i64 x)] [] [(0,false),(0,true)]=
  some ⟨.tup [.agg [.int .i64 0,.nils,.nils,.nils,.bool false,.int .i64 0,.nils,.int .i64 0],.c (.bool false)],[],(decide (d.length≤274877906944)&&(rp3 (!!bC k a b c on kd d vs) ((bif !bC k a b c on kd d vs then true else !bet x 1 2)&&true))),[]⟩:=by kernel_rfl
theorem a1K (k:Int) (a b:List Int) (c:List Bool) (on:Bool) (kd:Int) (d:List Int) (vs:Int) (x:Int):aD tt (a9 T45) ([]) 100 Tryz.f89 [.agg [.int .i64 k,.view none (.ints .i64 a) a.length 1 none,.view none (.ints .i64 b) b.length 1 none,.view none (.bools c) c.length 1 none,.bool on,.int .i64 kd,.view none (.ints .i64 d) d.length 1 none,.int .i64 vs],.c (.int .i64 x)] [] [(0,false),(0,false),(0,true)]=
  some ⟨.tup [.agg [.int .i64 k,.sl 0 0 a.length 1 none,.sl 1 0 b.length 1 none,.sl 2 0 c.length 1 none,.bool on,.int .i64 kd,.sl 3 0 d.length 1 none,.int .i64 vs],.c (.bool false)],[.live (.ints .i64 a),.live (.ints .i64 b),.live (.bools c),.live (.ints .i64 d)],(decide (d.length≤274877906944)&&(rp3 (!!bC k a b c on kd d vs) ((!bif !bC k a b c on kd d vs then true else !bet x 1 2)&&((k==x)&&(decide (a.length≤274877906944)&&(decide (b.length≤274877906944)&&(decide (c.length≤274877906944)&&((decide (d.length≤274877906944))&&true)))))))),[]⟩:=by kernel_rfl
theorem a1L (k:Int) (a b:List Int) (c:List Bool) (on:Bool) (kd:Int) (d:List Int) (vs:Int) (x:Int):aD tt (a9 T45) ([]) 100 Tryz.f89 [.agg [.int .i64 k,.view none (.ints .i64 a) a.length 1 none,.view none (.ints .i64 b) b.length 1 none,.view none (.bools c) c.length 1 none,.bool on,.int .i64 kd,.view none (.ints .i64 d) d.length 1 none,.int .i64 vs],.c (.int .i64 x)] [] [(0,false),(0,false),(0,false)]=
  some ⟨.tup [.agg [.int .i64 (d6 {k:=k,a:=a,b:=b,c:=c,on:=on,kd:=kd,d:=d,vs:=vs} x (krD k a b c on kd d vs)).k,.sl 0 0 (d6 {k:=k,a:=a,b:=b,c:=c,on:=on,kd:=kd,d:=d,vs:=vs} x (krD k a b c on kd d vs)).a.length 1 none,.sl 1 0 (d6 {k:=k,a:=a,b:=b,c:=c,on:=on,kd:=kd,d:=d,vs:=vs} x (krD k a b c on kd d vs)).b.length 1 none,.sl 2 0 (d6 {k:=k,a:=a,b:=b,c:=c,on:=on,kd:=kd,d:=d,vs:=vs} x (krD k a b c on kd d vs)).c.length 1 none,.bool (d6 {k:=k,a:=a,b:=b,c:=c,on:=on,kd:=kd,d:=d,vs:=vs} x (krD k a b c on kd d vs)).on,.int .i64 (d6 {k:=k,a:=a,b:=b,c:=c,on:=on,kd:=kd,d:=d,vs:=vs} x (krD k a b c on kd d vs)).kd,.sl 3 0 (d6 {k:=k,a:=a,b:=b,c:=c,on:=on,kd:=kd,d:=d,vs:=vs} x (krD k a b c on kd d vs)).d.length 1 none,.int .i64 (d6 {k:=k,a:=a,b:=b,c:=c,on:=on,kd:=kd,d:=d,vs:=vs} x (krD k a b c on kd d vs)).vs],.c (.bool (gN {k:=k,a:=a,b:=b,c:=c,on:=on,kd:=kd,d:=d,vs:=vs} x (krD k a b c on kd d vs)))],[.live (.ints .i64 (d6 {k:=k,a:=a,b:=b,c:=c,on:=on,kd:=kd,d:=d,vs:=vs} x (krD k a b c on kd d vs)).a),.live (.ints .i64 (d6 {k:=k,a:=a,b:=b,c:=c,on:=on,kd:=kd,d:=d,vs:=vs} x (krD k a b c on kd d vs)).b),.live (.bools (d6 {k:=k,a:=a,b:=b,c:=c,on:=on,kd:=kd,d:=d,vs:=vs} x (krD k a b c on kd d vs)).c),.live (.ints .i64 (d6 {k:=k,a:=a,b:=b,c:=c,on:=on,kd:=kd,d:=d,vs:=vs} x (krD k a b c on kd d vs)).d)],(decide (d.length≤274877906944)&&(rp3 (!!bC k a b c on kd d vs) ((!bif !bC k a b c on kd d vs then true else !bet x 1 2)&&((!k==x)&&(decide (d.length≤274877906944)&&(decide ((krD k a b c on kd d vs).length=(krD k a b c on kd d vs).length)&&(decide (d.length≤274877906944)&&((decide ((krD k a b c on kd d vs).length≤274877906944))&&true)))))))),[]⟩:=by kernel_rfl
def tbK (x:PK) (kind:Int):PK:=bif x.ok&&bet kind 1 2 then(bif x.k==kind then x else d6 x kind (krD x.k x.a x.b x.c x.on x.kd x.d x.vs))else PK0
def tbB (x:PK) (kind:Int):Bool:=bif x.ok&&bet kind 1 2 then(bif x.k==kind then false else gN x kind (krD x.k x.a x.b x.c x.on x.kd x.d x.vs))else false
theorem N5 (k:Int) (w v:List Int):(rdX k w v).length≤4:=by
 unfold rdX
 cases rdB k w v<;>simp[kK]
theorem N3 (k:Int) (a b:List Int) (c:List Bool):(rdD k a b c).length≤4:=by
 unfold rdD
 split
 ·exact N5 _ _ _
 ·simp
theorem DR (k:Int) (a b:List Int) (c:List Bool) (on:Bool) (kd:Int) (d:List Int) (vs:Int) (hd:d.length≤274877906944):(krD k a b c on kd d vs).length≤274877906944:=by
 unfold krD
 have:=N3 k a b c
 cases bC k a b c on kd d vs
 ·simp
 ·cases on
  ·simp only[cond_true,cond_false];omega
  ·exact hd
def PD:aN:=fun args h=>
 match args,h with
 |[.agg [.int .i64 k,.view _ (.ints .i64 a) n1 1 _,.view _ (.ints .i64 b) n2 1 _,.view _ (.bools c) n3 1 _,.bool on,.int .i64 kd,.view _ (.ints .i64 d) n4 1 _,.int .i64 vs],.c (.int .i64 x)],[]=>
  some (.tup [.agg (tbK ⟨k,a,b,c,on,kd,d,vs⟩ x).cells,.c (.bool (tbB ⟨k,a,b,c,on,kd,d,vs⟩ x))],[.live (.ints .i64 (tbK ⟨k,a,b,c,on,kd,d,vs⟩ x).a),.live (.ints .i64 (tbK ⟨k,a,b,c,on,kd,d,vs⟩ x).b),.live (.bools (tbK ⟨k,a,b,c,on,kd,d,vs⟩ x).c),.live (.ints .i64 (tbK ⟨k,a,b,c,on,kd,d,vs⟩ x).d)],[decide (d.length≤274877906944)])
 |_,_=>none
theorem m42:aT Tryz.prog 89 PD:=by
 intro args h res h' o hnorm he ho
 unfold PD at he
 split at he
 case h_2=>cases he
 rename_i k nl1 a n1 cap1 nl2 b n2 cap2 nl3 c n3 cap3 on kd nl4 d n4 cap4 vs x
 simp only[Option.some.injEq,Prod.mk.injEq]at he
 obtain⟨rfl,rfl,rfl⟩:=he
 simp only[List.mem_cons,List.not_mem_nil,or_false,forall_eq_or_imp,forall_eq,decide_eq_true_eq]at ho
 have o1:=ho
 simp only[bE,AV.norm,bF,aF.norm,Con.size,List.cons.injEq,AV.c.injEq,AV.agg.injEq,aF.view.injEq,aL,true_and,and_true]at hnorm
 obtain⟨⟨rfl,rfl,rfl⟩,⟨rfl,rfl,rfl⟩,⟨rfl,rfl,rfl⟩,rfl,rfl,rfl⟩:=hnorm
 unfold tbK tbB PK.ok
 dsimp only
 cases h:bC k a b c on kd d vs with
 |false=>exact gJ (mo t45 (a1I k a b c on kd d vs x) (by simp[h,o1]))
 |true=>
  obtain⟨ha,hb,hc⟩:=dH h
  cases hx:bet x 1 2 with
  |false=>exact gJ (mo t45 (a1J k a b c on kd d vs x) (by simp[h,hx,o1]))
  |true=>
   cases hk:k==x with
   |true=>exact mo t45 (a1K k a b c on kd d vs x) (by simp only[h,hx,hk,o1,ha,hb,hc,bS,rpS];simp)
   |false=>
    have:=DR k a b c on kd d vs o1
    exact mo t45 (a1L k a b c on kd d vs x) (by simp only[h,hx,hk,o1,this,bS,rpS])
end
section
theorem cT.froz (m t id:Nat) {s:St} {len es:Nat} {cap:Option Nat} {c:Con} (h1:s.tmps.getD t (.tup [])=.c (.sl id 0 len es cap)) (h2:Heap.get s.heap id=.live c) (hf:c.free=true) (hz:len*es=c.size):
  cT m s ⟨s.tmps.set t (.c (.view none c len es cap)),s.heap.set id .dead⟩:=fun X w0 ρ0 ρ a w h0 r=>by
 obtain⟨mo,m2⟩:=r.mem.kill (id:=id) (by rw[h2];simp)
 refine⟨upd ρ id .dead,⟨by simpa using r.size,fun u hu=> ?_,m2,r.defers,r.mono.trans mo.toB,r.ids.trans mo.ids⟩⟩
 simp only[List.length_set]at hu
 dsimp only
 by_cases e:u=t
 ·subst e
  have hx:=r.tmps u hu
  rw[h1]at hx
  have:(s.tmps.set u (.c (.view none c len es cap))).getD u (.tup [])=.c (.view none c len es cap):=by
   rw[List.getD_eq_getElem?_getD,List.getElem?_set_self hu];rfl
  rw[this]
  generalize a.tmps.getD u undef=v at hx⊢
  cases hx with
  |c x v hx=>
   refine .c _ _ ?_
   have nl: ∀b,ρ id=.row b→ ¬(bH (upd ρ id .dead) b∨X b):=by
    rintro b hb (⟨j,hj⟩|hxb)
    ·by_cases ej:j=id
     ·subst ej;rw[b8]at hj;cases hj
     ·rw[bG _ _ ej]at hj;exact ej (r.mem.inj j id b hj hb)
    ·exact r.mem.notX hb hxb
   rcases cW r.mem h2 hx with⟨b,k,ty,n,hb,rfl,⟨cs,ty',hrow,hsz,hcs⟩,hsh,hn,hl',hcap⟩|⟨ad,rfl,rfl,hcap⟩
   ·rw[Nat.zero_mul]
    refine .view none c len es cap b 0 k (fun q=>cs.getD q undef) (fun _ h=>nl b hb h) (fun q hq=> ?_) (fun q hq=> ?_) hz hl' hcap (fun _ h=>by cases h)
    ·have hq':q<cs.size:=by omega
     simp[World.cell?,hrow,Array.getD,hq']
    ·exact CR0.mono (mo.toB.or X) ((hcs q hq).free (eM hf q)) (cB.noIds _)
   ·exact .viewNone none c es cap ad 0 (by omega) hcap (fun _ h=>by cases h) (fun _=>rfl)
 ·have:(s.tmps.set t (.c (.view none c len es cap))).getD u (.tup [])=s.tmps.getD u (.tup []):=by
   rw[List.getD_eq_getElem?_getD,List.getElem?_set_ne (fun h=>e h.symm),←List.getD_eq_getElem?_getD]
  rw[this]
  exact(r.tmps u hu).mono mo
end
section
theorem A8 (v w:List Int):(tT v w).length=v.length:=p8 _ _ _
theorem fX (v:List Int) (c:Int):(dW v c).length=v.length:=p8 _ _ _
theorem oZ {f:Nat→Int} (h: ∀i,fok (f i)=true): ∀k i,a7 (gV f k i)=true
 |0,_=>rfl
 |k+1,i=>by simp only[gV,a7,List.all_cons,h,Bool.true_and,rpS];exact oZ h k (i+1)
theorem JU (v w:List Int):a7 (tT v w)=true:=oZ (fun i=>bY _) _ _
theorem mJ (v:List Int) (c:Int):a7 (dW v c)=true:=oZ (fun i=>bY _) _ _
def BL:aN:=fun args h=>
 match args,h with
 |[.c (.view _ (.ints .i64 v) n 1 _),.c (.view _ (.ints .i64 w) n2 1 _)],[]=>
  some (.c (.view none (.ints .i64 (tT v w)) v.length 1 none),[],[decide (v.length≤274877906944),decide (v.length≤w.length),a7 v,a7 w])
 |_,_=>none
theorem XE:aT Tryz.prog 218 BL:=by
 intro args h res h' o hnorm he ho
 unfold BL at he
 split at he
 case h_2=>cases he
 rename_i nl v n cap nl2 w n2 cap2
 simp only[Option.some.injEq,Prod.mk.injEq]at he
 obtain⟨rfl,rfl,rfl⟩:=he
 simp only[List.mem_cons,List.not_mem_nil,or_false,forall_eq_or_imp,forall_eq,decide_eq_true_eq]at ho
 obtain⟨o1,o2,o3,o4⟩:=ho
 simp only[bE,AV.norm,bF,aF.norm,Con.size,List.cons.injEq,AV.c.injEq,AV.agg.injEq,aF.view.injEq,aL,true_and,and_true]at hnorm
 obtain⟨⟨rfl,rfl,rfl⟩,rfl,rfl,rfl⟩:=hnorm
 exact(XD t5 [.c (.view none (.ints .i64 v) v.length 1 none),.c (.view none (.ints .i64 w) w.length 1 none)] [] _ _ _ rfl (by simp[o1,o2,o3,o4])).views (o:=[decide (v.length=(tT v w).length)]) rfl (by simp[A8])
def rS:aN:=fun args h=>
 match args,h with
 |[.c (.view _ (.ints .i64 v) n 1 _),.c (.int .i64 c)],[]=>
  some (.c (.view none (.ints .i64 (dW v c)) v.length 1 none),[],[decide (v.length≤274877906944),a7 v,fok c])
 |_,_=>none
theorem XB:aT Tryz.prog 194 rS:=by
 intro args h res h' o hnorm he ho
 unfold rS at he
 split at he
 case h_2=>cases he
 rename_i nl v n cap c
 simp only[Option.some.injEq,Prod.mk.injEq]at he
 obtain⟨rfl,rfl,rfl⟩:=he
 simp only[List.mem_cons,List.not_mem_nil,or_false,forall_eq_or_imp,forall_eq,decide_eq_true_eq]at ho
 obtain⟨o1,o2,o3⟩:=ho
 simp only[bE,AV.norm,bF,aF.norm,Con.size,List.cons.injEq,AV.c.injEq,AV.agg.injEq,aF.view.injEq,aL,true_and,and_true]at hnorm
 obtain⟨rfl,rfl,rfl⟩:=hnorm
 exact(QV t5 [.c (.view none (.ints .i64 v) v.length 1 none),.c (.int .i64 c)] [] _ _ _ rfl (by simp[o1,o2,o3])).views (o:=[decide (v.length=(dW v c).length)]) rfl (by simp[fX])
noncomputable def T46:List bD:=[⟨89,[],nm PD⟩,⟨218,[],nm BL⟩,⟨194,[],nm rS⟩]++T45
theorem e46:a6 Tryz.prog T46:=by
 refine a6.append ?_ e45
 intro e he
 simp only[List.mem_cons,List.not_mem_nil,or_false]at he
 rcases he with rfl|rfl|rfl
 ·exact m42.ok
 ·exact XE.ok
 ·exact XB.ok
theorem t46:bJ Tryz.prog (a9 T46):=aM e46
theorem UD (v w:List Int):aD tt (a9 T46) ([]) 100 Tryz.f193 [.c (.view none (.ints .i64 v) v.length 1 none),.c (.view none (.ints .i64 w) w.length 1 none)] [] []=
  some ⟨.c (.view none (.ints .i64 (tT v (dW w ((IntKind.i64.wrap (31-(IntKind.i64.wrap (v.getD (b9 w).toNat 0*inv (w.getD (b9 w).toNat 0))).tmod 31)).tmod 31)))) v.length 1 none),[],(decide (w.length≤274877906944)&&(decide (0≤b9 w)&&(decide (b9 w<(↑v.length:Int))&&(decide ((b9 w).toNat<v.length)&&(decide (0≤b9 w)&&(decide (b9 w<(↑w.length:Int))&&(decide ((b9 w).toNat<w.length)&&(fok (w.getD (b9 w).toNat 0)&&(decide (w.length≤274877906944)&&(a7 w&&(fok ((IntKind.i64.wrap (31-(IntKind.i64.wrap (v.getD (b9 w).toNat 0*inv (w.getD (b9 w).toNat 0))).tmod 31)).tmod 31)&&(decide (v.length≤274877906944)&&(decide (v.length≤(dW w ((IntKind.i64.wrap (31-(IntKind.i64.wrap (v.getD (b9 w).toNat 0*inv (w.getD (b9 w).toNat 0))).tmod 31)).tmod 31)).length)&&(a7 v&&((a7 (dW w ((IntKind.i64.wrap (31-(IntKind.i64.wrap (v.getD (b9 w).toNat 0*inv (w.getD (b9 w).toNat 0))).tmod 31)).tmod 31)))&&true))))))))))))))),[]⟩:=by kernel_rfl
def nlC (v w:List Int):Int:=(31-v.getD (b9 w).toNat 0*inv (w.getD (b9 w).toNat 0)%31)%31
def nlL (v w:List Int):List Int:=tT v (dW w (nlC v w))
theorem oX {v:List Int}: ∀(f i j:Nat),fP v f i=some j→i≤j∧j<i+f
 |0,i,j,h=>by simp[fP]at h
 |f+1,i,j,h=>by
  simp only[fP]at h
  split at h
  ·have:=oX f (i+1) j h;omega
  ·injection h with h;omega
theorem HX (w:List Int):b9 w<w.length∨w=[]:=by
 by_cases hw:w=[]
 ·exact .inr hw
 ·refine .inl ?_
  have h0:0<w.length:=List.length_pos_iff.2 hw
  unfold b9
  cases h:kB w with
  |none=>dsimp only;omega
  |some j=>
   have:=oX w.length 0 j h
   dsimp only;omega
theorem LU {v w:List Int} (hv:a7 v=true):(IntKind.i64.wrap (31-(IntKind.i64.wrap (v.getD (b9 w).toNat 0*inv (w.getD (b9 w).toNat 0))).tmod 31)).tmod 31=nlC v w:=by
 have hf:=aO hv (b9 w).toNat
 have hi:=rE (w.getD (b9 w).toNat 0)
 obtain⟨m1,m2⟩:=kZ hf hi
 rw[oG hf hi,nM m1,dM (by omega) (by omega),nM (by omega)];rfl
def wJ:aN:=fun args h=>
 match args,h with
 |[.c (.view _ (.ints .i64 v) n 1 _),.c (.view _ (.ints .i64 w) n2 1 _)],[]=>
  some (.c (.view none (.ints .i64 (nlL v w)) v.length 1 none),[],[decide (v.length≤274877906944),decide (v.length=w.length),a7 v,a7 w,decide (0≤b9 w)])
 |_,_=>none
theorem a69:aT Tryz.prog 193 wJ:=by
 intro args h res h' o hnorm he ho
 unfold wJ at he
 split at he
 case h_2=>cases he
 rename_i nl v n cap nl2 w n2 cap2
 simp only[Option.some.injEq,Prod.mk.injEq]at he
 obtain⟨rfl,rfl,rfl⟩:=he
 simp only[List.mem_cons,List.not_mem_nil,or_false,forall_eq_or_imp,forall_eq,decide_eq_true_eq]at ho
 obtain⟨o1,o2,o3,o4,o5⟩:=ho
 simp only[bE,AV.norm,bF,aF.norm,Con.size,List.cons.injEq,AV.c.injEq,AV.agg.injEq,aF.view.injEq,aL,true_and,and_true]at hnorm
 obtain⟨⟨rfl,rfl,rfl⟩,rfl,rfl,rfl⟩:=hnorm
 have hl:=HX w
 have hl':b9 w<w.length:=by
  rcases hl with h|h
  ·exact h
  ·subst h;simp[b9,kB,fP]at o5
 have e:=UD v w
 rw[LU o3]at e
 exact mo t46 e (by
  have hc:fok (nlC v w)=true:=bY _
  simp only[aO o4,hc,o3,o4,mJ,fX,Bool.true_and,rpS,Bool.and_true,Bool.and_eq_true,decide_eq_true_eq,true_and,and_true]
  omega)
noncomputable def T47:List bD:=[⟨193,[],nm wJ⟩]++T46
theorem e47:a6 Tryz.prog T47:=by
 refine a6.append ?_ e46
 intro e he
 simp only[List.mem_cons,List.not_mem_nil,or_false]at he
 subst he;exact a69.ok
theorem t47:bJ Tryz.prog (a9 T47):=aM e47
noncomputable abbrev f153:=Tryz.f189
theorem l0 (v w:List Int):(nlL v w).length=v.length:=A8 _ _
theorem rF (v w:List Int):a7 (nlL v w)=true:=JU _ _
noncomputable def mN (ti:List (List Int)) (v:List Int) (n:Nat) (i:Int):St:=
 aY f153.ntmps [(0,.c (.view none (.ivs .i64 ti) ti.length 1 none)),(1,.c (.view none (.ints .i64 v) n 1 none)),(5,.c (.int .i64 i))] []
noncomputable def E6 (ti:List (List Int)) (v:List Int) (n:Nat):St:=
 aY f153.ntmps [(0,.c (.view none (.ivs .i64 ti) ti.length 1 none)),(1,.c (.view none (.ints .i64 v) n 1 none))] []
theorem S3 (ti:List (List Int)) (v:List Int) (n:Nat) (i:Int):aC 0 (a8 f153 0) (aA f153 0) (aG tt (a9 T47) ([]) 0 100 (a0 0 (a5 f153)) (mN ti v n i) [(0,true)])=
  some (.normal,(decide (i<(↑ti.length:Int))&&(decide (0≤i)&&(decide (i<(↑ti.length:Int))&&(decide (i.toNat<ti.length)&&(decide (v.length≤274877906944)&&(decide (v.length=(ti.getD i.toNat []).length)&&(a7 v&&(a7 (ti.getD i.toNat [])&&((decide (0≤b9 (ti.getD i.toNat [])))&&true))))))))),[],mN ti (nlL v (ti.getD i.toNat [])) (v.length) (IntKind.i64.wrap (i+1))):=by kernel_rfl
theorem S4 (ti:List (List Int)) (v:List Int) (n:Nat) (i:Int):aC 0 (a8 f153 0) (aA f153 0) (aG tt (a9 T47) ([]) 0 100 (a0 0 (a5 f153)) (mN ti v n i) [(0,false)])=
  some (.exit 0,((!decide (i<(↑ti.length:Int)))&&true),[],E6 ti (v) (n)):=by kernel_rfl
noncomputable def lX (ti:List (List Int)) (v:List Int) (n:Nat) (ld:Int) (m:Nat) (out:List (List Int)) (put:Bool) (i:Int):St:=
 aY f153.ntmps [(0,.c (.view none (.ivs .i64 ti) ti.length 1 none)),(1,.c (.view none (.ints .i64 v) n 1 none)),(6,.c (.int .i64 ld)),(7,.c (.sl 0 0 m 1 none)),(8,.c (.bool put)),(9,.c (.int .i64 i))] [.live (.ivs .i64 out)]
noncomputable def GV (v:List Int) (n m:Nat) (out:List (List Int)) (put:Bool):St:=
 aY f153.ntmps [(1,.c (.view none (.ints .i64 v) n 1 none)),(7,.c (.sl 0 0 m 1 none)),(8,.c (.bool put))] [.live (.ivs .i64 out)]
theorem MW (ti:List (List Int)) (v:List Int) (n:Nat) (ld:Int) (m:Nat) (out:List (List Int)) (put:Bool) (i:Int):aC 0 (a8 f153 2) (aA f153 2) (aG tt (a9 T47) ([]) 0 100 (a0 2 (a5 f153)) (lX ti v n ld m out put i) [(0,true),(0,true),(0,true)])=
  some (.normal,(decide (i<(↑ti.length:Int))&&(rp3 (!put) (decide (0≤i)&&(decide (i<(↑ti.length:Int))&&((!put)&&(decide (i.toNat<ti.length)&&((!put)&&(decide ((ti.getD i.toNat []).length≤274877906944)&&(rp2 (!put) ((bif !put then decide (b9 (ti.getD i.toNat [])>ld)else false)&&(decide (m=out.length)&&(decide (m+1≤274877906944)&&(decide (0≤i)&&(decide (i<(↑ti.length:Int))&&(decide (i.toNat<ti.length)&&(decide ((ti.getD i.toNat []).length≤274877906944)&&(decide ((ti.getD i.toNat []).length=v.length)&&(a7 (ti.getD i.toNat [])&&(a7 v&&(decide (0≤b9 v)&&(decide (m+1=(out++[v]).length)&&((decide (m+1+1≤274877906944))&&true)))))))))))))))))))))),[],lX ti v n ld (m+1+1) (out++[v]++[nlL (ti.getD i.toNat []) v]) (true) (IntKind.i64.wrap (i+1))):=by kernel_rfl
theorem MX (ti:List (List Int)) (v:List Int) (n:Nat) (ld:Int) (m:Nat) (out:List (List Int)) (put:Bool) (i:Int):aC 0 (a8 f153 2) (aA f153 2) (aG tt (a9 T47) ([]) 0 100 (a0 2 (a5 f153)) (lX ti v n ld m out put i) [(0,true),(0,true),(0,false)])=
  some (.normal,(decide (i<(↑ti.length:Int))&&(rp3 (!put) (decide (0≤i)&&(decide (i<(↑ti.length:Int))&&((!put)&&(decide (i.toNat<ti.length)&&((!put)&&(decide ((ti.getD i.toNat []).length≤274877906944)&&(rp2 (!put) ((!bif !put then decide (b9 (ti.getD i.toNat [])>ld)else false)&&(decide (0≤i)&&(decide (i<(↑ti.length:Int))&&(decide (i.toNat<ti.length)&&(decide ((ti.getD i.toNat []).length≤274877906944)&&(decide ((ti.getD i.toNat []).length=v.length)&&(a7 (ti.getD i.toNat [])&&(a7 v&&(decide (0≤b9 v)&&(decide (m=out.length)&&((decide (m+1≤274877906944))&&true)))))))))))))))))))),[],lX ti v n ld (m+1) (out++[nlL (ti.getD i.toNat []) v]) (put) (IntKind.i64.wrap (i+1))):=by kernel_rfl
theorem MY (ti:List (List Int)) (v:List Int) (n:Nat) (ld:Int) (m:Nat) (out:List (List Int)) (put:Bool) (i:Int):aC 0 (a8 f153 2) (aA f153 2) (aG tt (a9 T47) ([]) 0 100 (a0 2 (a5 f153)) (lX ti v n ld m out put i) [(0,true),(0,false)])=
  some (.normal,(decide (i<(↑ti.length:Int))&&(rp8 (!!put) (decide (0≤i)&&(decide (i<(↑ti.length:Int))&&(decide (i.toNat<ti.length)&&(decide ((ti.getD i.toNat []).length≤274877906944)&&(decide ((ti.getD i.toNat []).length=v.length)&&(a7 (ti.getD i.toNat [])&&(a7 v&&(decide (0≤b9 v)&&(decide (m=out.length)&&((decide (m+1≤274877906944))&&true)))))))))))),[],lX ti v n ld (m+1) (out++[nlL (ti.getD i.toNat []) v]) (put) (IntKind.i64.wrap (i+1))):=by kernel_rfl
theorem MZ (ti:List (List Int)) (v:List Int) (n:Nat) (ld:Int) (m:Nat) (out:List (List Int)) (put:Bool) (i:Int):aC 0 (a8 f153 2) (aA f153 2) (aG tt (a9 T47) ([]) 0 100 (a0 2 (a5 f153)) (lX ti v n ld m out put i) [(0,false)])=
  some (.exit 2,((!decide (i<(↑ti.length:Int)))&&true),[],GV v n (m) (out) (put)):=by kernel_rfl
end
section
def OS (L:Nat) (r:List Int):Bool:=decide (r.length=L)&&(a7 r&&decide (0≤b9 r))
def iU (L:Nat) (ti:List (List Int)):Bool:=ti.all (OS L)
theorem A9 {L:Nat} {ti:List (List Int)} (h:iU L ti=true) {i:Nat} (hi:i<ti.length):(ti.getD i []).length=L∧a7 (ti.getD i [])=true∧0≤b9 (ti.getD i []):=by
 rw[List.getD_eq_getElem?_getD,List.getElem?_eq_getElem hi]
 have:=List.all_eq_true.1 h _ (List.getElem_mem hi)
 simpa only[OS,Bool.and_eq_true,decide_eq_true_eq,Option.getD_some]using this
def EX (ti:List (List Int)) (i:Nat) (v:List Int):List Int:=nlL v (ti.getD i [])
def dI (ti:List (List Int)) (v:List Int):List Int:=bL (EX ti) ti.length 0 v
theorem N4 {ti:List (List Int)} {v:List Int} (hv:a7 v=true):(dI ti v).length=v.length∧a7 (dI ti v)=true:=
 bB (step:=EX ti) (fun _ x=>x.length=v.length∧a7 x=true) _ v ⟨rfl,hv⟩ fun i x _ h=>⟨by rw[EX,l0];exact h.1,rF _ _⟩
theorem a4S (ti:List (List Int)) (v:List Int) (L:Nat) (hL:L≤274877906944) (hn:ti.length≤1000) (ht:iU L ti=true) (hv:v.length=L) (hf:a7 v=true):
  aS Tryz.prog 0 (.block 0 (.loop (a0 0 (a5 f153)))) (mN ti v v.length 0) fun e t=>e=.normal∧t=E6 ti (dI ti v) (dI ti v).length:=by
 refine aS.count hT t47 bK ti.length (fun _ x=>x.length=L∧a7 x=true) (fun i x=>mN ti x x.length i) (fun x=>E6 ti x x.length) (EX ti) (a8 f153 0) (aA f153 0)
  (fun _ _=>[]) (fun _ _ _ _=>aI.nil) (fun i x hi h=>⟨⟨by rw[EX,l0];exact h.1,rF _ _⟩, ?_⟩) (fun x h=>⟨_,_,⟨_,_,S4 ti x x.length ti.length,by simp,by simp⟩⟩) v ⟨hv,hf⟩
 obtain⟨g1,g2,g3⟩:=A9 ht hi
 have e:=S3 ti x x.length i
 rw[aB (by omega) (by omega),Int.toNat_natCast]at e
 have hlen:(EX ti i x).length=x.length:=l0 _ _
 rw[hlen]
 refine⟨_,_,⟨_,_,e, ?_,by simp⟩⟩
 simp only[h.2,g2,bS,rpS]
 omega
def GZ (ti:List (List Int)) (v:List Int) (ld:Int) (i:Nat) (s:List (List Int)×Bool):List (List Int)×Bool:=
 bif !s.2&&decide (b9 (ti.getD i [])>ld)then(s.1++[v]++[nlL (ti.getD i []) v],true)else(s.1++[nlL (ti.getD i []) v],s.2)
def lE (ti:List (List Int)) (v:List Int) (ld:Int):List (List Int)×Bool:=bL (GZ ti v ld) ti.length 0 ([],false)
theorem WP (ti:List (List Int)) (v:List Int) (n L:Nat) (ld:Int) (hL:L≤274877906944) (hn:ti.length≤1000) (ht:iU L ti=true) (hv:v.length=L) (hf:a7 v=true) (h0:0≤b9 v):
  aS Tryz.prog 0 (.block 2 (.loop (a0 2 (a5 f153)))) (lX ti v n ld 0 [] false 0) fun e t=>e=.normal∧t=GV v n (lE ti v ld).1.length (lE ti v ld).1 (lE ti v ld).2:=by
 refine(aS.count hT t47 bK ti.length (fun i s=>s.1.length≤2*i) (fun i s=>lX ti v n ld s.1.length s.1 s.2 i) (fun s=>GV v n s.1.length s.1 s.2) (GZ ti v ld) (a8 f153 2) (aA f153 2)
  (fun _ _=>[]) (fun _ _ _ _=>aI.nil) (fun i s hi h=> ?_) (fun s h=>⟨_,_,⟨_,_,MZ ti v n ld s.1.length s.1 s.2 ti.length,by simp,by simp⟩⟩)) ([],false) (by simp)
 obtain⟨g1,g2,g3⟩:=A9 ht hi
 obtain⟨out,put⟩:=s
 dsimp only at h⊢
 unfold GZ
 cases hp:put with
 |true=>
  refine⟨by simp;omega, ?_⟩
  have e:=MY ti v n ld out.length out true i
  rw[aB (by omega) (by omega),Int.toNat_natCast]at e
  simp only[Bool.not_true,Bool.false_and,cond_false,List.length_append,List.length_cons,List.length_nil]
  refine⟨_,_,⟨_,_,e, ?_,by simp⟩⟩
  simp only[hf,g2,h0,bS,rpS]
  omega
 |false=>
  cases hl:decide (b9 (ti.getD i [])>ld)with
  |true=>
   refine⟨by simp;omega, ?_⟩
   have e:=MW ti v n ld out.length out false i
   rw[aB (by omega) (by omega),Int.toNat_natCast]at e
   simp only[Bool.not_false,Bool.true_and,rpS,cond_true,List.length_append,List.length_cons,List.length_nil]
   refine⟨_,_,⟨_,_,e, ?_,by simp⟩⟩
   simp only[hl,hf,g2,h0,List.length_append,List.length_cons,List.length_nil,bS,rpS]
   omega
  |false=>
   refine⟨by simp;omega, ?_⟩
   have e:=MX ti v n ld out.length out false i
   rw[aB (by omega) (by omega),Int.toNat_natCast]at e
   simp only[Bool.not_false,Bool.true_and,rpS,cond_false,List.length_append,List.length_cons,List.length_nil]
   refine⟨_,_,⟨_,_,e, ?_,by simp⟩⟩
   simp only[hl,hf,g2,h0,bS,rpS]
   omega
def fS (v:List Int):List Int:=dW v (inv (v.getD (b9 v).toNat 0))
def jS (ti:List (List Int)) (v:List Int):List (List Int):=
 bif decide (b9 (dI ti v)<0)then ti else
  (bif (lE ti (fS (dI ti v)) (b9 (dI ti v))).2 then(lE ti (fS (dI ti v)) (b9 (dI ti v))).1 else(lE ti (fS (dI ti v)) (b9 (dI ti v))).1++[fS (dI ti v)])
theorem UB (ti:List (List Int)) (v v':List Int) (out:List (List Int)) (put:Bool):aD tt (a9 T47) ([(0,⟨a8 f153 0,mN ti v v.length 0,.normal,E6 ti v' v'.length⟩),(2,⟨a8 f153 2,lX ti (fS v') v'.length (b9 v') 0 [] false 0,.normal,GV (fS v') v'.length out.length out put⟩)]) 100 f153 [.c (.view none (.ivs .i64 ti) ti.length 1 none),.c (.view none (.ints .i64 v) v.length 1 none)] [] [(0,false),(0,true)]=
  some ⟨.c (.sl 0 0 (out.length+1) 1 none),[.live (.ivs .i64 (out++[fS v']))],(decide (v'.length≤274877906944)&&(!decide (b9 v'<0)&&(decide (0≤b9 v')&&(decide (b9 v'<(↑v'.length:Int))&&(decide ((b9 v').toNat<v'.length)&&(fok (v'.getD (b9 v').toNat 0)&&(decide (v'.length≤274877906944)&&(a7 v'&&(fok (inv (v'.getD (b9 v').toNat 0))&&((!put)&&(decide (out.length=out.length)&&((decide (out.length+1≤274877906944))&&true)))))))))))),[mN ti v v.length 0=mN ti v v.length 0,lX ti (fS v') v'.length (b9 v') 0 [] false 0=lX ti (fS v') v'.length (b9 v') 0 [] false 0]⟩:=by kernel_rfl
theorem UC (ti:List (List Int)) (v v':List Int) (out:List (List Int)) (put:Bool):aD tt (a9 T47) ([(0,⟨a8 f153 0,mN ti v v.length 0,.normal,E6 ti v' v'.length⟩),(2,⟨a8 f153 2,lX ti (fS v') v'.length (b9 v') 0 [] false 0,.normal,GV (fS v') v'.length out.length out put⟩)]) 100 f153 [.c (.view none (.ivs .i64 ti) ti.length 1 none),.c (.view none (.ints .i64 v) v.length 1 none)] [] [(0,false),(0,false)]=
  some ⟨.c (.sl 0 0 out.length 1 none),[.live (.ivs .i64 out)],(decide (v'.length≤274877906944)&&(!decide (b9 v'<0)&&(decide (0≤b9 v')&&(decide (b9 v'<(↑v'.length:Int))&&(decide ((b9 v').toNat<v'.length)&&(fok (v'.getD (b9 v').toNat 0)&&(decide (v'.length≤274877906944)&&(a7 v'&&(fok (inv (v'.getD (b9 v').toNat 0))&&((!!put)&&true)))))))))),[mN ti v v.length 0=mN ti v v.length 0,lX ti (fS v') v'.length (b9 v') 0 [] false 0=lX ti (fS v') v'.length (b9 v') 0 [] false 0]⟩:=by kernel_rfl
theorem O8 (ti:List (List Int)) (v v':List Int):aD tt (a9 T47) ([(0,⟨a8 f153 0,mN ti v v.length 0,.normal,E6 ti v' v'.length⟩)]) 100 f153 [.c (.view none (.ivs .i64 ti) ti.length 1 none),.c (.view none (.ints .i64 v) v.length 1 none)] [] [(0,true)]=
  some ⟨.c (.view none (.ivs .i64 ti) ti.length 1 none),[],(decide (v'.length≤274877906944)&&((decide (b9 v'<0))&&true)),[mN ti v v.length 0=mN ti v v.length 0]⟩:=by kernel_rfl
theorem q9 {v:List Int}: ∀(f i:Nat),fP v f i=none→ ∀k,i≤k→k<i+f→v.getD k 0=0
 |0,i,h,k,h1,h2=>by omega
 |f+1,i,h,k,h1,h2=>by
  simp only[fP]at h
  split at h
  ·rename_i hz
   by_cases e:k=i
   ·subst e;exact hz
   ·exact q9 f (i+1) h k (by omega) (by omega)
  ·cases h
theorem vK {v:List Int}: ∀(f i j:Nat),fP v f i=some j→v.getD j 0≠0
 |0,i,j,h=>by simp[fP]at h
 |f+1,i,j,h=>by
  simp only[fP]at h
  split at h
  ·exact vK f (i+1) j h
  ·rename_i hz
   injection h with h;subst h;exact hz
theorem xM {v:List Int} {i:Nat} (hi:i<v.length) (h:v.getD i 0≠0):0≤b9 v:=by
 unfold b9
 cases hl:kB v with
 |some j=>dsimp only;omega
 |none=>exact absurd (q9 v.length 0 hl i (by omega) (by omega)) h
theorem zG {v:List Int} (h:0≤b9 v):(b9 v).toNat<v.length∧v.getD (b9 v).toNat 0≠0:=by
 unfold b9 at h⊢
 cases hl:kB v with
 |some j=>
  dsimp only
  rw[Int.toNat_natCast]
  have:=oX v.length 0 j hl
  exact⟨by omega,vK _ _ _ hl⟩
 |none=>rw[hl]at h;simp at h
theorem CN {v:List Int} {c:Int} {i:Nat} (hi:i<v.length):(dW v c).getD i 0=v.getD i 0*c%31:=by
 have gen: ∀(k j i:Nat),i<k→(gV (pG v c) k j).getD i 0=pG v c (j+i):=by
  intro k
  induction k with
  |zero=>intro j i h;omega
  |succ k ih=>
   intro j i h
   simp only[gV]
   cases i with
   |zero=>simp
   |succ i=>rw[List.getD_cons_succ,ih (j+1) i (by omega)];congr 1;omega
 have:=gen v.length 0 i hi
 rw[Nat.zero_add]at this;exact this
theorem EU {v:List Int} (hf:a7 v=true) (h:0≤b9 v):0≤b9 (fS v):=by
 obtain⟨h1,h2⟩:=zG h
 refine xM (i:=(b9 v).toNat) (by unfold fS;rw[fX];exact h1) ?_
 unfold fS
 rw[CN h1,nE (aO hf _) h2];decide
theorem GY (ti:List (List Int)) (v:List Int) (ld:Int):(lE ti v ld).1.length≤2*ti.length:=
 bB (step:=GZ ti v ld) (fun i s=>s.1.length≤2*i) ti.length ([],false) (by simp) fun i s _ h=>by
  unfold GZ
  cases !s.2&&decide (b9 (ti.getD i [])>ld)
  ·simp;omega
  ·simp;omega
def FM:aN:=fun args h=>
 match args,h with
 |[.c (.view _ (.ivs .i64 ti) n 1 _),.c (.view _ (.ints .i64 v) n2 1 _)],[]=>
  some (.c (.view none (.ivs .i64 (jS ti v)) (jS ti v).length 1 none),[],[decide (v.length≤274877906944),decide (ti.length≤1000),iU v.length ti,a7 v])
 |_,_=>none
theorem a67:aT Tryz.prog 189 FM:=by
 intro args h res h' o hnorm he ho
 unfold FM at he
 split at he
 case h_2=>cases he
 rename_i nl ti n cap nl2 v n2 cap2
 simp only[Option.some.injEq,Prod.mk.injEq]at he
 obtain⟨rfl,rfl,rfl⟩:=he
 simp only[List.mem_cons,List.not_mem_nil,or_false,forall_eq_or_imp,forall_eq,decide_eq_true_eq]at ho
 obtain⟨o1,o2,o3,o4⟩:=ho
 simp only[bE,AV.norm,bF,aF.norm,Con.size,List.cons.injEq,AV.c.injEq,AV.agg.injEq,aF.view.injEq,aL,true_and,and_true]at hnorm
 obtain⟨⟨rfl,rfl,rfl⟩,rfl,rfl,rfl⟩:=hnorm
 obtain⟨r1,r2⟩:=N4 (ti:=ti) o4
 have g1:=a4S ti v v.length o1 o2 o3 rfl o4
 unfold jS
 cases hl:decide (b9 (dI ti v)<0)with
 |true=>
  exact mo (fn:=f153) t47 (O8 ti v (dI ti v)) (by simp only[hl,bS,rpS];omega) (hlc:=(fun cc hcc=>aI.cons (c:=cc) (by cases hcc;kernel_rfl) (by cases hcc;exact g1) aI.nil))
 |false=>
  have h0:0≤b9 (dI ti v):=by simpa using hl
  obtain⟨z1,z2⟩:=zG h0
  have g2:=WP ti (fS (dI ti v)) (dI ti v).length v.length (b9 (dI ti v)) o1 o2 o3 (by unfold fS;rw[fX];exact r1) (mJ _ _) (EU r2 h0)
  have hlen:=GY ti (fS (dI ti v)) (b9 (dI ti v))
  cases hp:(lE ti (fS (dI ti v)) (b9 (dI ti v))).2 with
  |true=>
   have e:=UC ti v (dI ti v) (lE ti (fS (dI ti v)) (b9 (dI ti v))).1 (lE ti (fS (dI ti v)) (b9 (dI ti v))).2
   have mm:=mo (f:=189) (fn:=f153) t47 e (by simp only[hl,hp,r2,aO r2,rE,bS,rpS];omega) (hlc:=(fun cc hcc=>aI.cons (c:=cc) (by cases hcc;kernel_rfl) (by cases hcc;exact g1) (aI.cons (by cases hcc;kernel_rfl) (by cases hcc;exact g2) aI.nil)))
   exact mm.views (o:=[decide ((lE ti (fS (dI ti v)) (b9 (dI ti v))).1.length=(lE ti (fS (dI ti v)) (b9 (dI ti v))).1.length)]) rfl (by simp)
  |false=>
   have e:=UB ti v (dI ti v) (lE ti (fS (dI ti v)) (b9 (dI ti v))).1 (lE ti (fS (dI ti v)) (b9 (dI ti v))).2
   have mm:=mo (f:=189) (fn:=f153) t47 e (by simp only[hl,hp,r2,aO r2,rE,bS,rpS];omega) (hlc:=(fun cc hcc=>aI.cons (c:=cc) (by cases hcc;kernel_rfl) (by cases hcc;exact g1) (aI.cons (by cases hcc;kernel_rfl) (by cases hcc;exact g2) aI.nil)))
   have:=mm.views (o:=[decide ((lE ti (fS (dI ti v)) (b9 (dI ti v))).1.length+1=((lE ti (fS (dI ti v)) (b9 (dI ti v))).1++[fS (dI ti v)]).length)]) rfl (by simp)
   rw[cond_false,cond_false,List.length_append]
   exact this
end
section
noncomputable def T48:List bD:=[⟨189,[],nm FM⟩]++T47
theorem e48:a6 Tryz.prog T48:=by
 refine a6.append ?_ e47
 intro e he
 simp only[List.mem_cons,List.not_mem_nil,or_false]at he
 subst he;exact a67.ok
theorem t48:bJ Tryz.prog (a9 T48):=aM e48
noncomputable abbrev f134:=Tryz.f156
noncomputable def GI (m out:List (List Int)) (n:Nat) (i:Int):St:=
 aY f134.ntmps [(0,.c (.view none (.ivs .i64 m) m.length 1 none)),(3,.c (.view none (.ivs .i64 out) n 1 none)),(4,.c (.int .i64 i))] []
noncomputable def KH (out:List (List Int)) (n:Nat):St:=aY f134.ntmps [(3,.c (.view none (.ivs .i64 out) n 1 none))] []
theorem RN (m out:List (List Int)) (n:Nat) (i:Int):aC 0 (a8 f134 0) (aA f134 0) (aG tt (a9 T48) ([]) 0 100 (a0 0 (a5 f134)) (GI m out n i) [(0,true)])=
  some (.normal,(decide (i<(↑m.length:Int))&&(decide (0≤i)&&(decide (i<(↑m.length:Int))&&(decide (i.toNat<m.length)&&(decide ((m.getD i.toNat []).length≤274877906944)&&(decide (out.length≤1000)&&(iU (m.getD i.toNat []).length out&&((a7 (m.getD i.toNat []))&&true)))))))),[],GI m (jS out (m.getD i.toNat [])) ((jS out (m.getD i.toNat [])).length) (IntKind.i64.wrap (i+1))):=by kernel_rfl
theorem RO (m out:List (List Int)) (n:Nat) (i:Int):aC 0 (a8 f134 0) (aA f134 0) (aG tt (a9 T48) ([]) 0 100 (a0 0 (a5 f134)) (GI m out n i) [(0,false)])=
  some (.exit 0,((!decide (i<(↑m.length:Int)))&&true),[],KH (out) (n)):=by kernel_rfl
def hG (m:List (List Int)) (i:Nat) (out:List (List Int)):List (List Int):=jS out (m.getD i [])
def cJ (m:List (List Int)):List (List Int):=bL (hG m) m.length 0 []
def cY (m:List (List Int)):Nat→Nat→List (List Int)→Bool
 |0,_,_=>true
 |f+1,i,out=>(decide ((m.getD i []).length≤274877906944)&&(decide (out.length≤1000)&&(iU (m.getD i []).length out&&a7 (m.getD i []))))&&cY m f (i+1) (hG m i out)
def eL (m:List (List Int)):Bool:=cY m m.length 0 []
noncomputable def BS (m:List (List Int)):St:=
 aY f134.ntmps [(0,.c (.view none (.ivs .i64 m) m.length 1 none)),(3,.c (.sl 0 0 0 1 none)),(4,.c (.int .i64 0))] [.live (.ivs .i64 [])]
theorem a4M (m:List (List Int)) (hm:m.length≤274877906944) (ht:eL m=true):
  aS Tryz.prog 0 (.block 0 (.loop (a0 0 (a5 f134)))) (BS m) fun e t=>e=.normal∧t=KH (cJ m) (cJ m).length:=by
 have g:=aS.count hT t48 bK (m:=0) (id:=0) (body:=a0 0 (a5 f134)) m.length (fun i out=>cY m (m.length-i) i out=true) (fun i out=>GI m out out.length i) (fun out=>KH out out.length) (hG m) (a8 f134 0) (aA f134 0)
  (fun _ _=>[]) (fun _ _ _ _=>aI.nil) (fun i out hi h=> ?_) (fun out h=>⟨_,_,⟨_,_,RO m out out.length m.length,by simp,by simp⟩⟩) [] ht
 ·have e:fit 0 (a8 f134 0) ⟨(BS m).tmps.set 3 (.c (.view none (.ivs .i64 []) 0 1 none)),(BS m).heap.set 0 .dead⟩=GI m [] 0 0:=by kernel_rfl
  have w:=(cT.froz 0 3 0 (s:=BS m) (len:=0) (es:=1) (cap:=none) (c:=.ivs .i64 []) rfl rfl rfl rfl).trans (cT.fit 0 (a8 f134 0) _)
  rw[e]at w
  exact g.pre w
 ·rw[show m.length-i=(m.length-(i+1))+1 from by omega]at h
  simp only[cY,Bool.and_eq_true,rpS,decide_eq_true_eq]at h
  obtain⟨⟨h1,h2,h3,h4⟩,h5⟩:=h
  refine⟨h5, ?_⟩
  have e:=RN m out out.length i
  rw[aB (by omega) (by omega),Int.toNat_natCast]at e
  refine⟨_,_,⟨_,_,e, ?_,by simp⟩⟩
  simp only[h1,h2,h3,h4,decide_true,bS,rpS]
  omega
theorem U3 (m:List (List Int)):aD tt (a9 T48) ([(0,⟨a8 f134 0,BS m,.normal,KH (cJ m) (cJ m).length⟩)]) 100 f134 [.c (.view none (.ivs .i64 m) m.length 1 none)] [] []=
  some ⟨.c (.view none (.ivs .i64 (cJ m)) (cJ m).length 1 none),[],true,[BS m=BS m]⟩:=by kernel_rfl
def BM:aN:=fun args h=>
 match args,h with
 |[.c (.view _ (.ivs .i64 m) n 1 _)],[]=>
  some (.c (.view none (.ivs .i64 (cJ m)) (cJ m).length 1 none),[],[decide (m.length≤274877906944),eL m])
 |_,_=>none
theorem a5R:aT Tryz.prog 156 BM:=by
 intro args h res h' o hnorm he ho
 unfold BM at he
 split at he
 case h_2=>cases he
 rename_i nl m n cap
 simp only[Option.some.injEq,Prod.mk.injEq]at he
 obtain⟨rfl,rfl,rfl⟩:=he
 simp only[List.mem_cons,List.not_mem_nil,or_false,forall_eq_or_imp,forall_eq,decide_eq_true_eq]at ho
 obtain⟨o1,o2⟩:=ho
 simp only[bE,AV.norm,bF,aF.norm,Con.size,List.cons.injEq,AV.c.injEq,AV.agg.injEq,aF.view.injEq,aL,true_and,and_true]at hnorm
 obtain⟨rfl,rfl,rfl⟩:=hnorm
 exact mo (fn:=f134) t48 (U3 m) (by simp) (hlc:=(fun cc hcc=>aI.cons (c:=cc) (by cases hcc;kernel_rfl) (by cases hcc;exact a4M m o1 o2) aI.nil))
noncomputable def T49:List bD:=[⟨156,[],nm BM⟩]++T48
theorem e49:a6 Tryz.prog T49:=by
 refine a6.append ?_ e48
 intro e he
 simp only[List.mem_cons,List.not_mem_nil,or_false]at he
 subst he;exact a5R.ok
theorem t49:bJ Tryz.prog (a9 T49):=aM e49
theorem U0 (m:List (List Int)) (v:List Int):aD tt (a9 T49) ([]) 100 Tryz.f160 [.c (.view none (.ivs .i64 m) m.length 1 none),.c (.view none (.ints .i64 v) v.length 1 none)] [] []=
  some ⟨.c (.bool ((↑(jS (cJ m) v).length:Int)==(↑(cJ m).length:Int))),[],(decide (m.length≤274877906944)&&(eL m&&(decide (v.length≤274877906944)&&(decide ((cJ m).length≤1000)&&(iU v.length (cJ m)&&((a7 v)&&true)))))),[]⟩:=by kernel_rfl
noncomputable abbrev f135:=Tryz.f157
noncomputable def u7 (k:Int) (c:List Bool) (n:Nat) (out:List (List Int)) (i:Int):St:=
 aY f135.ntmps [(0,.c (.int .i64 k)),(1,.c (.view none (.bools c) c.length 1 none)),(5,.c (.sl 0 0 n 1 none)),(6,.c (.int .i64 i))] [.live (.ivs .i64 out)]
noncomputable def KI (n:Nat) (out:List (List Int)):St:=aY f135.ntmps [(5,.c (.sl 0 0 n 1 none))] [.live (.ivs .i64 out)]
theorem RP (k:Int) (c:List Bool) (n:Nat) (out:List (List Int)) (i:Int):aC 0 (a8 f135 0) (aA f135 0) (aG tt (a9 T49) ([]) 0 100 (a0 0 (a5 f135)) (u7 k c n out i) [(0,true),(0,true)])=
  some (.normal,(decide (i<8)&&(decide (0≤i)&&(decide (i<(↑c.length:Int))&&(decide (i.toNat<c.length)&&((c.getD i.toNat false)&&(bet k 1 2&&(bet i 0 7&&(decide (n=out.length)&&((decide (n+1≤274877906944))&&true))))))))),[],u7 k c (n+1) (out++[aH k i]) (IntKind.i64.wrap (i+1))):=by kernel_rfl
theorem RQ (k:Int) (c:List Bool) (n:Nat) (out:List (List Int)) (i:Int):aC 0 (a8 f135 0) (aA f135 0) (aG tt (a9 T49) ([]) 0 100 (a0 0 (a5 f135)) (u7 k c n out i) [(0,true),(0,false)])=
  some (.normal,(decide (i<8)&&(decide (0≤i)&&(decide (i<(↑c.length:Int))&&(decide (i.toNat<c.length)&&((!c.getD i.toNat false)&&true))))),[],u7 k c (n) (out) (IntKind.i64.wrap (i+1))):=by kernel_rfl
theorem RR (k:Int) (c:List Bool) (n:Nat) (out:List (List Int)) (i:Int):aC 0 (a8 f135 0) (aA f135 0) (aG tt (a9 T49) ([]) 0 100 (a0 0 (a5 f135)) (u7 k c n out i) [(0,false)])=
  some (.exit 0,((!decide (i<8))&&true),[],KI (n) (out)):=by kernel_rfl
noncomputable abbrev f62:=Tryz.f62
noncomputable def I62 (k:Int) (v:List Int) (n:Nat) (out:List Int) (i:Int):St:=
 aY f62.ntmps [(0,.c (.int .i64 k)),(1,.c (.view none (.ints .i64 v) v.length 1 none)),(5,.c (.sl 0 0 n 1 none)),(6,.c (.int .i64 i))] [.live (.ints .i64 out)]
noncomputable def X62 (n:Nat) (out:List Int):St:=aY f62.ntmps [(5,.c (.sl 0 0 n 1 none))] [.live (.ints .i64 out)]
theorem YY (k:Int) (v:List Int) (n:Nat) (out:List Int) (i:Int):aC 0 (a8 f62 0) (aA f62 0) (aG tt (a9 T49) ([]) 0 100 (a0 0 (a5 f62)) (I62 k v n out i) [(0,true)])=
  some (.normal,(decide (i<8)&&(bet k 1 2&&(bet i 0 7&&(decide ((aH k i).length≤274877906944)&&(decide ((aH k i).length≤v.length)&&(a7 (aH k i)&&(a7 v&&(decide (n=out.length)&&((decide (n+1≤274877906944))&&true))))))))),[],I62 k v (n+1) (out++[aQ (aH k i) v]) (IntKind.i64.wrap (i+1))):=by kernel_rfl
theorem YZ (k:Int) (v:List Int) (n:Nat) (out:List Int) (i:Int):aC 0 (a8 f62 0) (aA f62 0) (aG tt (a9 T49) ([]) 0 100 (a0 0 (a5 f62)) (I62 k v n out i) [(0,false)])=
  some (.exit 0,((!decide (i<8))&&true),[],X62 (n) (out)):=by kernel_rfl
end
end Go.Proofs.YthapjdpkelihiaaGreat.Am
