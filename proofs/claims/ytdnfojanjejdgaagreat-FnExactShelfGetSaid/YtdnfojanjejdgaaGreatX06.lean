/- DERIVED. Part 6 of the proof: C34, C35, C36, C37, C38, C39, Am32, C41, C42, C43, C44. No statement of the program is proved here. -/
import Derived.Test.YtdnfojanjejdgaaGreatX05
set_option linter.unusedSimpArgs false
set_option linter.unusedVariables false
set_option linter.unusedSectionVars false
set_option linter.defProp false
namespace Go.Proofs.YtdnfojanjejdgaaGreat.Am
section
def CY:aO:=fun args h=>
 match args,h with
 |[.c (.sl 0 0 n 1 none),.c (.fn 216 [.ptr 1 0 0 0])],[.live (.ints .i64 v),.live (.cells [.int .i64 k,.view nl1 (.ints .i64 a) n1 1 cap1,.view nl2 (.ints .i64 b) n2 1 cap2,.view nl3 (.bools c) n3 1 cap3])]=>
  some (.c (.int .i64 (eE (fun x=> !cH k a (ofL b c x)) v)),[.live (.ints .i64 v),.live (.cells [.int .i64 k,.view nl1 (.ints .i64 a) n1 1 cap1,.view nl2 (.ints .i64 b) n2 1 cap2,.view nl3 (.bools c) n3 1 cap3])],[decide (v.length≤274877906944),decide (v.length=n),decide (c.length=8),decide (b.length=8),bet k 1 2,decide (a.length=8),aD a])
 |_,_=>none
def RN (k:Int) (n1 n2 n3:Nat) (nl1 nl2 nl3:Option Bool) (cap1 cap2 cap3:Option Nat) (a b:List Int) (c:List Bool) (v:List Int):=bt1 ([.live (.ints .i64 v),.live (.cells [.int .i64 k,.view nl1 (.ints .i64 a) n1 1 cap1,.view nl2 (.ints .i64 b) n2 1 cap2,.view nl3 (.bools c) n3 1 cap3])]:List aV) (P:=fun q0=>(aJ tt (aH T37) ([(0,⟨aE gA 0,lL k n1 n2 n3 nl1 nl2 nl3 cap1 cap2 cap3 a b c v 0,.normal,KY k n1 n2 n3 nl1 nl2 nl3 cap1 cap2 cap3 a b c v⟩)]) 100 gA [.c (.sl 0 0 v.length 1 none),.c (.fn 216 [.ptr 1 0 0 0])] q0) []=
  some ⟨.c (.int .i64 (-1)),q0,true,[lL k n1 n2 n3 nl1 nl2 nl3 cap1 cap2 cap3 a b c v 0=lL k n1 n2 n3 nl1 nl2 nl3 cap1 cap2 cap3 a b c v 0]⟩) (by kernel_rfl)
def RP (k:Int) (n1 n2 n3:Nat) (nl1 nl2 nl3:Option Bool) (cap1 cap2 cap3:Option Nat) (a b:List Int) (c:List Bool) (v:List Int) (j:Nat):=bt1 ([.live (.ints .i64 v),.live (.cells [.int .i64 k,.view nl1 (.ints .i64 a) n1 1 cap1,.view nl2 (.ints .i64 b) n2 1 cap2,.view nl3 (.bools c) n3 1 cap3])]:List aV) (P:=fun q0=>(aJ tt (aH T37) ([(0,⟨aE gA 0,lL k n1 n2 n3 nl1 nl2 nl3 cap1 cap2 cap3 a b c v 0,.ret,L6 k n1 n2 n3 nl1 nl2 nl3 cap1 cap2 cap3 a b c v j⟩)]) 100 gA [.c (.sl 0 0 v.length 1 none),.c (.fn 216 [.ptr 1 0 0 0])] q0) []=
  some ⟨.c (.int .i64 (↑j:Int)),q0,true,[lL k n1 n2 n3 nl1 nl2 nl3 cap1 cap2 cap3 a b c v 0=lL k n1 n2 n3 nl1 nl2 nl3 cap1 cap2 cap3 a b c v 0]⟩) (by kernel_rfl)
theorem a1S:aR Tryz.prog 122 CY:=by
 intro args h res h' o he ho
 unfold CY at he
 split at he
 case h_2=>cases he
 rename_i n v k nl1 a n1 cap1 nl2 b n2 cap2 nl3 c n3 cap3
 simp only[Option.some.injEq,Prod.mk.injEq]at he
 obtain⟨rfl,rfl,rfl⟩:=he
 simp only[List.mem_cons,List.not_mem_nil,or_false,forall_eq_or_imp,forall_eq,decide_eq_true_eq]at ho
 obtain⟨o1,o2,o3,o4,o5,o6,o7⟩:=ho
 subst o2
 have g:=a1A k n1 n2 n3 nl1 nl2 nl3 cap1 cap2 cap3 a b c v o1 (by omega) (by omega) o5 o6 o7 (fun i hi=>⟨(uD o3).2,(uD o3).1,C6 o5 o3⟩)
 unfold eE
 cases hx:eW (fun x=> !cH k a (ofL b c x)) v with
 |none=>
  rw[hx]at g
  exact mo (fn:=gA) t37 (RN k n1 n2 n3 nl1 nl2 nl3 cap1 cap2 cap3 a b c v) rfl (hlc:=(fun cc hc=>aL.cons (c:=cc) (by cases hc;kernel_rfl) (by cases hc;exact g) aL.nil))
 |some j=>
  rw[hx]at g
  exact mo (fn:=gA) t37 (RP k n1 n2 n3 nl1 nl2 nl3 cap1 cap2 cap3 a b c v j) rfl (hlc:=(fun cc hc=>aL.cons (c:=cc) (by cases hc;kernel_rfl) (by cases hc;exact g) aL.nil))
noncomputable def T38:List aZ:=[⟨122,[0,1],CY⟩]++T37
theorem e38:aA Tryz.prog T38:=by
 refine aA.append ?_ e37
 intro e he
 simp only[List.mem_cons,List.not_mem_nil,or_false]at he
 subst he;exact a1S
theorem t38:bL Tryz.prog (aH T38):=aQ e38
def RG (k:Int) (n1 n2 n3:Nat) (nl1 nl2 nl3:Option Bool) (cap1 cap2 cap3:Option Nat) (a b:List Int) (c:List Bool) (v:List Int):=bt1 ([.live (.ints .i64 v),.live (.cells [.int .i64 k,.view nl1 (.ints .i64 a) n1 1 cap1,.view nl2 (.ints .i64 b) n2 1 cap2,.view nl3 (.bools c) n3 1 cap3])]:List aV) (P:=fun q0=>(aJ tt (aH T38) ([]) 100 Tryz.f68 [.c (.sl 0 0 v.length 1 none),.c (.fn 216 [.ptr 1 0 0 0])] q0) []=
  some ⟨.c (.bool (decide (eE (fun x=> !cH k a (ofL b c x)) v≥0))),q0,(decide (v.length≤274877906944)&&(decide (v.length=v.length)&&(decide (c.length=8)&&(decide (b.length=8)&&(bet k 1 2&&(decide (a.length=8)&&((aD a)&&true))))))),[]⟩) (by kernel_rfl)
theorem M3 (q:Int→Bool) (v:List Int):decide (eE (fun x=> !q x) v≥0)= !v.all q:=by
 unfold eE
 cases h:eW (fun x=> !q x) v with
 |none=>
  have:=mF h
  have ha:v.all q=true:=by
   rw[List.all_eq_true]
   intro x hx
   obtain⟨i,hi⟩:=List.getElem?_of_mem hx
   have hlt:=(List.getElem?_eq_some_iff.1 hi).1
   have h1:=this i (by omega) (by omega)
   rw[List.getD_eq_getElem?_getD,hi]at h1
   simpa using h1
  rw[ha];decide
 |some j=>
  obtain⟨h1,h2,h3,h4⟩:=mG h
  have ha:v.all q=false:=by
   rw[List.all_eq_false]
   refine⟨v.getD j 0, ?_,by simpa using h3⟩
   rw[List.getD_eq_getElem?_getD,List.getElem?_eq_getElem (by omega)]
   exact List.getElem_mem _
  rw[ha]
  dsimp only
  simp
def CS:aO:=fun args h=>
 match args,h with
 |[.c (.sl 0 0 n 1 none),.c (.fn 216 [.ptr 1 0 0 0])],[.live (.ints .i64 v),.live (.cells [.int .i64 k,.view nl1 (.ints .i64 a) n1 1 cap1,.view nl2 (.ints .i64 b) n2 1 cap2,.view nl3 (.bools c) n3 1 cap3])]=>
  some (.c (.bool (!v.all fun x=>cH k a (ofL b c x))),[.live (.ints .i64 v),.live (.cells [.int .i64 k,.view nl1 (.ints .i64 a) n1 1 cap1,.view nl2 (.ints .i64 b) n2 1 cap2,.view nl3 (.bools c) n3 1 cap3])],[decide (v.length≤274877906944),decide (v.length=n),decide (c.length=8),decide (b.length=8),bet k 1 2,decide (a.length=8),aD a])
 |_,_=>none
theorem a1Q:aR Tryz.prog 68 CS:=by
 intro args h res h' o he ho
 unfold CS at he
 split at he
 case h_2=>cases he
 rename_i n v k nl1 a n1 cap1 nl2 b n2 cap2 nl3 c n3 cap3
 simp only[Option.some.injEq,Prod.mk.injEq]at he
 obtain⟨rfl,rfl,rfl⟩:=he
 simp only[List.mem_cons,List.not_mem_nil,or_false,forall_eq_or_imp,forall_eq,decide_eq_true_eq]at ho
 obtain⟨o1,o2,o3,o4,o5,o6,o7⟩:=ho
 subst o2
 have e:=RG k n1 n2 n3 nl1 nl2 nl3 cap1 cap2 cap3 a b c v
 rw[M3 (fun x=>cH k a (ofL b c x))]at e
 exact mo t38 e (by simp[o1,o3,o4,o5,o6,o7])
noncomputable def T39:List aZ:=[⟨68,[0,1],CS⟩]++T38
theorem e39:aA Tryz.prog T39:=by
 refine aA.append ?_ e38
 intro e he
 simp only[List.mem_cons,List.not_mem_nil,or_false]at he
 subst he;exact a1Q
theorem t39:bL Tryz.prog (aH T39):=aQ e39
noncomputable abbrev f72:=Tryz.f180
end
section
noncomputable def I72 (k:Int) (a b:List Int) (c:List Bool) (i:Int):St:=
  aS f72.ntmps [(1,.c (.ptr 0 0 0 0)),(15,.c (.view none (.bools c) c.length 1 none)),(16,.c (.int .i64 c.length)),(17,.c (.int .i64 i))]
   [.live (.cells [.int .i64 k,.view none (.ints .i64 a) a.length 1 none,.view none (.ints .i64 b) b.length 1 none,.view none (.bools c) c.length 1 none])]
noncomputable def X72 (k:Int) (a b:List Int) (c:List Bool):St:=
  aS f72.ntmps [(1,.c (.ptr 0 0 0 0))]
   [.live (.cells [.int .i64 k,.view none (.ints .i64 a) a.length 1 none,.view none (.ints .i64 b) b.length 1 none,.view none (.bools c) c.length 1 none])]
noncomputable def Y72 (k:Int) (a b:List Int) (c:List Bool):St:=
  aS f72.ntmps [(1,.c (.ptr 0 0 0 0)),(2,.c (.bool false))]
   [.live (.cells [.int .i64 k,.view none (.ints .i64 a) a.length 1 none,.view none (.ints .i64 b) b.length 1 none,.view none (.bools c) c.length 1 none])]
def mN (k:Int) (a b:List Int) (c:List Bool) (i:Int):=ZT (aM tt (aH T39) ([]) 0 100 (aC 0 (aB f72)) (I72 k a b c i)) (!c.getD i.toNat false) (aK 0 (aE f72 0) (aG f72 0)) (c.getD i.toNat false) (↑c.length:Int) (a.getD i.toNat 0) (!a.getD i.toNat 0 !=0) (↑a.length:Int) (↑b.length:Int) (b.getD i.toNat 0) (IntKind.i64.wrap (i+1)) (!!c.getD i.toNat false) (a.getD i.toNat 0 !=0) (P:=fun q0 q1 q2 q3 q4 q5 q6 q7 q8 q9 q10 q11 q12=>q2 (q0 [(0,true),(0,true),(0,true),(0,true)])=
  some (.ret,(decide (i<q4)&&(decide (0≤i)&&(decide (i<q4)&&(decide (i.toNat<c.length)&&(rp4 q3 (decide (0≤i)&&(decide (i<q7)&&(q3&&(decide (i.toNat<a.length)&&(rp3 q3 (rp7 (!fok q5) (q3&&(!fok q5&&(rp5 (bif c.getD i.toNat false then true else false) true)))))))))))))),[],Y72 k a b c)∧q2 (q0 [(0,true),(0,true),(0,false),(0,true)])=
  some (.ret,(decide (i<q4)&&(decide (0≤i)&&(decide (i<q4)&&(decide (i.toNat<c.length)&&(rp4 q3 (decide (0≤i)&&(decide (i<q7)&&(q3&&(decide (i.toNat<a.length)&&(rp3 q3 (rp4 (!!fok q5) (decide (0≤i)&&(decide (i<q8)&&(!!fok q5&&(decide (i.toNat<b.length)&&(rp2 (!!fok q5) (q3&&(rp5 (bif c.getD i.toNat false then bif !fok q5 then true else !bet q9 1 99 else false) true)))))))))))))))))),[],Y72 k a b c)∧q2 (q0 [(0,true),(0,true),(0,false),(0,false),(0,false),(0,false)])=
  some (.normal,(decide (i<q4)&&(decide (0≤i)&&(decide (i<q4)&&(decide (i.toNat<c.length)&&(rp4 q3 (decide (0≤i)&&(decide (i<q7)&&(q3&&(decide (i.toNat<a.length)&&(rp3 q3 (rp4 (!!fok q5) (decide (0≤i)&&(decide (i<q8)&&(!!fok q5&&(decide (i.toNat<b.length)&&(rp2 (!!fok q5) (q3&&(rp3 (!bif c.getD i.toNat false then bif !fok q5 then true else !bet q9 1 99 else false) (rp8 q11 ((!bif c.getD i.toNat false then bif !fok q5 then true else !bet q9 1 99 else false)&&(q11&&((!bif bif c.getD i.toNat false then bif !fok q5 then true else !bet q9 1 99 else false then true else false)&&true)))))))))))))))))))))),[],I72 k a b c q10)∧q2 (q0 [(0,true),(0,false),(1,true),(0,true),(0,true)])=
  some (.ret,(decide (i<q4)&&(decide (0≤i)&&(decide (i<q4)&&(decide (i.toNat<c.length)&&(rp5 q1 (rp9 q1 (decide (0≤i)&&(decide (i<q7)&&(q1&&(decide (i.toNat<a.length)&&(rp2 q1 (rp6 q12 (q1&&(q12&&((bif !c.getD i.toNat false then true else false)&&true))))))))))))))),[],Y72 k a b c)∧q2 (q0 [(0,true),(0,false),(1,true),(0,false),(0,true)])=
  some (.ret,(decide (i<q4)&&(decide (0≤i)&&(decide (i<q4)&&(decide (i.toNat<c.length)&&(rp5 q1 (rp9 q1 (decide (0≤i)&&(decide (i<q7)&&(q1&&(decide (i.toNat<a.length)&&(rp2 q1 (rp4 q6 (decide (0≤i)&&(decide (i<q8)&&(q6&&(decide (i.toNat<b.length)&&(q6&&(q1&&((bif !c.getD i.toNat false then bif a.getD i.toNat 0 !=0 then true else b.getD i.toNat 0 !=0 else false)&&true))))))))))))))))))),[],Y72 k a b c)∧q2 (q0 [(0,true),(0,false),(1,true),(0,false),(0,false)])=
  some (.normal,(decide (i<q4)&&(decide (0≤i)&&(decide (i<q4)&&(decide (i.toNat<c.length)&&(rp5 q1 (rp9 q1 (decide (0≤i)&&(decide (i<q7)&&(q1&&(decide (i.toNat<a.length)&&(rp2 q1 (rp4 q6 (decide (0≤i)&&(decide (i<q8)&&(q6&&(decide (i.toNat<b.length)&&(q6&&(q1&&((!bif !c.getD i.toNat false then bif a.getD i.toNat 0 !=0 then true else b.getD i.toNat 0 !=0 else false)&&true))))))))))))))))))),[],I72 k a b c q10)∧q2 (q0 [(0,false)])=
  some (.exit 0,((!decide (i<q4))&&true),[],X72 k a b c)) ⟨by kernel_rfl,by kernel_rfl,by kernel_rfl,by kernel_rfl,by kernel_rfl,by kernel_rfl,by kernel_rfl⟩
def a38 (k:Int) (a b:List Int) (c:List Bool) (i:Int):=(mN k a b c i).1
def a39 (k:Int) (a b:List Int) (c:List Bool) (i:Int):=(mN k a b c i).2.1
def a3A (k:Int) (a b:List Int) (c:List Bool) (i:Int):=(mN k a b c i).2.2.1
def a3B (k:Int) (a b:List Int) (c:List Bool) (i:Int):=(mN k a b c i).2.2.2.1
def a3C (k:Int) (a b:List Int) (c:List Bool) (i:Int):=(mN k a b c i).2.2.2.2.1
def a3D (k:Int) (a b:List Int) (c:List Bool) (i:Int):=(mN k a b c i).2.2.2.2.2.1
def a3E (k:Int) (a b:List Int) (c:List Bool) (i:Int):=(mN k a b c i).2.2.2.2.2.2
def nX (a b:List Int) (c:List Bool) (i:Nat):Bool:=bif c.getD i false then fok (a.getD i 0)&&bet (b.getD i 0) 1 99 else !(a.getD i 0 !=0)&& !(b.getD i 0 !=0)
theorem l72 (k:Int) (a b:List Int) (c:List Bool) (ha:a.length=8) (hb:b.length=8) (hc:c.length=8):
  aP none Tryz.prog 0 (.block 0 (.loop (aC 0 (aB f72)))) (I72 k a b c 0) fun e t=>e=(bif cL (nX a b c) 8 0 then .normal else .ret)∧t=bif cL (nX a b c) 8 0 then X72 k a b c else Y72 k a b c:=by
 refine aP.all (ro:=none) hT t39 bE 8 (nX a b c) (fun i=>I72 k a b c i) (X72 k a b c) (Y72 k a b c) .ret (.inr rfl) (aE f72 0) (aG f72 0) (fun _=>[]) (fun _ _=>aL.nil) (fun i hi h=> ?_) (fun i hi h=> ?_)
  ⟨_,_,⟨_,_,a3E k a b c (8:Nat),by rw[hc];rfl,by simp⟩⟩
 ·unfold nX at h
  cases h1:c.getD i false with
  |true=>
   rw[h1,cond_true,Bool.and_eq_true]at h
   obtain⟨h2,h3⟩:=h
   have e:=a3A k a b c i
   rw[aF (by omega) (by omega),Int.toNat_natCast]at e
   refine⟨_,_,⟨_,_,e, ?_,by simp⟩⟩
   simp only[h1,h2,h3,Bool.not_true,Bool.not_false,cond_true,cond_false,Bool.true_and,rpS,Bool.and_true,Bool.and_eq_true,decide_eq_true_eq,true_and,and_true]
   omega
  |false=>
   rw[h1,cond_false,Bool.and_eq_true,Bool.not_eq_true',Bool.not_eq_true']at h
   obtain⟨h2,h3⟩:=h
   have e:=a3D k a b c i
   rw[aF (by omega) (by omega),Int.toNat_natCast]at e
   refine⟨_,_,⟨_,_,e, ?_,by simp⟩⟩
   simp only[h1,h2,h3,Bool.not_true,Bool.not_false,cond_true,cond_false,Bool.true_and,rpS,Bool.and_true,Bool.and_eq_true,decide_eq_true_eq,true_and,and_true]
   omega
 ·unfold nX at h
  rw[if_neg (by intro h;cases h)]
  cases h1:c.getD i false with
  |true=>
   rw[h1,cond_true]at h
   cases h2:fok (a.getD i 0)with
   |false=>
    have e:=a38 k a b c i
    rw[Int.toNat_natCast]at e
    refine⟨_,_,⟨_,_,e, ?_,by simp⟩⟩
    simp only[h1,h2,Bool.not_true,Bool.not_false,cond_true,cond_false,Bool.true_and,rpS,Bool.and_true,Bool.and_eq_true,decide_eq_true_eq,true_and,and_true]
    omega
   |true=>
    rw[h2,Bool.true_and]at h
    have e:=a39 k a b c i
    rw[Int.toNat_natCast]at e
    refine⟨_,_,⟨_,_,e, ?_,by simp⟩⟩
    simp only[h1,h2,h,Bool.not_true,Bool.not_false,cond_true,cond_false,Bool.true_and,rpS,Bool.and_true,Bool.and_eq_true,decide_eq_true_eq,true_and,and_true]
    omega
  |false=>
   rw[h1,cond_false]at h
   cases h2:a.getD i 0 !=0 with
   |true=>
    have e:=a3B k a b c i
    rw[Int.toNat_natCast]at e
    refine⟨_,_,⟨_,_,e, ?_,by simp⟩⟩
    simp only[h1,h2,Bool.not_true,Bool.not_false,cond_true,cond_false,Bool.true_and,rpS,Bool.and_true,Bool.and_eq_true,decide_eq_true_eq,true_and,and_true]
    omega
   |false=>
    rw[h2,Bool.not_false,Bool.true_and,Bool.not_eq_false']at h
    have e:=a3C k a b c i
    rw[Int.toNat_natCast]at e
    refine⟨_,_,⟨_,_,e, ?_,by simp⟩⟩
    simp only[h1,h2,h,Bool.not_true,Bool.not_false,cond_true,cond_false,Bool.true_and,rpS,Bool.and_true,Bool.and_eq_true,decide_eq_true_eq,true_and,and_true]
    omega
theorem BZ {a b:List Int} {c:List Bool} (ha:a.length=8) (h:cL (nX a b c) 8 0=true):aD a=true:=by
 have key: ∀i,i<8→fok (a.getD i 0)=true:=fun i hi=>by
  have:=cF.1 h i (by omega) (by omega)
  unfold nX at this
  cases h1:c.getD i false with
  |true=>rw[h1,cond_true,Bool.and_eq_true]at this;exact this.1
  |false=>
   rw[h1,cond_false,Bool.and_eq_true,Bool.not_eq_true']at this
   have h2:a.getD i 0=0:=by simpa using this.1
   rw[h2];rfl
 simp only[aD,List.all_eq_true]
 intro x hx
 obtain⟨i,hi⟩:=List.getElem?_of_mem hx
 have hlt:=(List.getElem?_eq_some_iff.1 hi).1
 have:=key i (by omega)
 rw[List.getD_eq_getElem?_getD,hi]at this
 simpa using this
def S1 (k:Int) (a b:List Int) (c:List Bool):=bt2 (aJ tt (aH T39) ([(0,⟨aE f72 0,I72 k a b c 0,.normal,X72 k a b c⟩)]) 100 f72 [.agg [.int .i64 k,.view none (.ints .i64 a) a.length 1 none,.view none (.ints .i64 b) b.length 1 none,.view none (.bools c) c.length 1 none]] []) (bO b c) (P:=fun q0 q1=>q0 [(0,true)]=
  some ⟨.c (.bool false),[],(rp3 (!bet k 1 2) ((!bet k 1 2)&&true)),[]⟩∧q0 [(0,false),(0,true)]=
  some ⟨.c (.bool false),[],(rp3 (!!bet k 1 2) ((bif !bet k 1 2 then true else !d5 a b c)&&true)),[]⟩∧q0 [(0,false),(0,false)]=
  some ⟨.c (.bool !!q1.all fun x=>cH k a (ofL b c x)),[],(rp3 (!!bet k 1 2) ((!bif !bet k 1 2 then true else !d5 a b c)&&(decide (c.length≤8)&&(decide (b.length=c.length)&&(decide (q1.length≤274877906944)&&(decide (q1.length=q1.length)&&(decide (c.length=8)&&(decide (b.length=8)&&(bet k 1 2&&(decide (a.length=8)&&((aD a)&&true))))))))))),[I72 k a b c 0=I72 k a b c 0]⟩) ⟨by kernel_rfl,by kernel_rfl,by kernel_rfl⟩
def Z2 (k:Int) (a b:List Int) (c:List Bool):=(S1 k a b c).2.2
def S2 (k:Int) (a b:List Int) (c:List Bool):=bt1 (aJ tt (aH T39) ([(0,⟨aE f72 0,I72 k a b c 0,.ret,Y72 k a b c⟩)]) 100 f72 [.agg [.int .i64 k,.view none (.ints .i64 a) a.length 1 none,.view none (.ints .i64 b) b.length 1 none,.view none (.bools c) c.length 1 none]] []) (P:=fun q0=>q0 [(0,true)]=
  some ⟨.c (.bool false),[],(rp3 (!bet k 1 2) ((!bet k 1 2)&&true)),[]⟩∧q0 [(0,false),(0,true)]=
  some ⟨.c (.bool false),[],(rp3 (!!bet k 1 2) ((bif !bet k 1 2 then true else !d5 a b c)&&true)),[]⟩∧q0 [(0,false),(0,false)]=
  some ⟨.c (.bool false),[],(rp3 (!!bet k 1 2) ((!bif !bet k 1 2 then true else !d5 a b c)&&true)),[I72 k a b c 0=I72 k a b c 0]⟩) ⟨by kernel_rfl,by kernel_rfl,by kernel_rfl⟩
def Z3 (k:Int) (a b:List Int) (c:List Bool):=(S2 k a b c).2.2
def GZ (k:Int) (a b:List Int) (c:List Bool):=bt1 (aJ tt (aH T39) ([]) 100 f72 [.agg [.int .i64 k,.view none (.ints .i64 a) a.length 1 none,.view none (.ints .i64 b) b.length 1 none,.view none (.bools c) c.length 1 none]] []) (P:=fun q0=>q0 [(0,true)]=
  some ⟨.c (.bool false),[],(rp3 (!bet k 1 2) ((!bet k 1 2)&&true)),[]⟩∧q0 [(0,false),(0,true)]=
  some ⟨.c (.bool false),[],(rp3 (!!bet k 1 2) ((bif !bet k 1 2 then true else !d5 a b c)&&true)),[]⟩) ⟨by kernel_rfl,by kernel_rfl⟩
def Z4 (k:Int) (a b:List Int) (c:List Bool):=(GZ k a b c).1
def Z5 (k:Int) (a b:List Int) (c:List Bool):=(GZ k a b c).2
theorem wB (v:List Int): ∀n,(eP v n).length≤n
 |0=>by simp[eP]
 |n+1=>by
  have:=wB v n
  simp only[eP]
  cases Nat.beq n 0||v.getD n 0 !=v.getD (n-1) 0
  ·rw[cond_false];omega
  ·rw[cond_true,List.length_append,List.length_singleton];omega
theorem xI (b:List Int) (c:List Bool):(bO b c).length≤c.length:=by
 have h:=wB (jA (cW (eK b (flg c)))) (jA (cW (eK b (flg c)))).length
 rw[uP,pO,pR]at h
 have:=nC c
 unfold bO jH
 rw[uP,pO,pR]
 omega
def bU (k:Int) (a b:List Int) (c:List Bool):Bool:=bet k 1 2&&(d5 a b c&&(cL (nX a b c) 8 0&&(bO b c).all fun x=>cH k a (ofL b c x)))
theorem f9 {a b:List Int} {c:List Bool}:d5 a b c=true↔a.length=8∧b.length=8∧c.length=8:=by
 simp only[d5,Bool.and_eq_true,rpS,beq_iff_eq];omega
def KC:aO:=fun args h=>
 match args,h with
 |[.agg [.int .i64 k,.view _ (.ints .i64 a) n1 1 _,.view _ (.ints .i64 b) n2 1 _,.view _ (.bools c) n3 1 _]],[]=>
  some (.c (.bool (bU k a b c)),[],[])
 |_,_=>none
theorem m72:aT Tryz.prog 180 KC:=by
 intro args h res h' o hnorm he ho
 unfold KC at he
 split at he
 case h_2=>cases he
 rename_i k nl1 a n1 cap1 nl2 b n2 cap2 nl3 c n3 cap3
 simp only[Option.some.injEq,Prod.mk.injEq]at he
 obtain⟨rfl,rfl,rfl⟩:=he
 simp only[b8,AV.norm,bA,aI.norm,Con.size,List.cons.injEq,AV.c.injEq,AV.agg.injEq,aI.view.injEq,aN,true_and,and_true]at hnorm
 obtain⟨⟨rfl,rfl,rfl⟩,⟨rfl,rfl,rfl⟩,rfl,rfl,rfl⟩:=hnorm
 unfold bU
 cases h1:bet k 1 2 with
 |false=>exact mo t39 (Z4 k a b c) (by rw[h1];rfl)
 |true=>
  cases h2:d5 a b c with
  |false=>exact mo t39 (Z5 k a b c) (by rw[h1,h2];rfl)
  |true=>
   obtain⟨ha,hb,hc⟩:=f9.1 h2
   have g:=l72 k a b c ha hb hc
   have hv:=xI b c
   cases h3:cL (nX a b c) 8 0 with
   |false=>
    rw[h3]at g
    exact mo (fn:=f72) t39 (Z3 k a b c) (by rw[h1,h2];rfl) (hlc:=(fun cc hcc=>aL.cons (c:=cc) (by cases hcc;kernel_rfl) (by cases hcc;exact g) aL.nil))
   |true=>
    rw[h3]at g
    have e:=Z2 k a b c
    rw[Bool.not_not]at e
    exact mo (fn:=f72) t39 e (by
     rw[h1,h2,BZ ha h3]
     simp only[Bool.not_true,Bool.not_false,cond_false,Bool.true_and,rpS,Bool.and_true,Bool.and_eq_true,decide_eq_true_eq,true_and,and_true]
     omega) (hlc:=(fun cc hcc=>aL.cons (c:=cc) (by cases hcc;kernel_rfl) (by cases hcc;exact g) aL.nil))
noncomputable def T40:List aZ:=[⟨180,[],nm KC⟩]++T39
theorem e40:aA Tryz.prog T40:=by
 refine aA.append ?_ e39
 intro e he
 simp only[List.mem_cons,List.not_mem_nil,or_false]at he
 subst he;exact m72.ok
noncomputable abbrev f65:=Tryz.f131
end
section
def rdB (k:Int) (w v:List Int):Bool:=c8 k v&&cH k w v
def X2 (k:Int) (w v:List Int):List Int:=[(eR k w v).getD 0 0,(eR k w v).getD 1 0,(eR k w v).getD 2 0,(eR k w v).getD 3 0]
def rdX (k:Int) (w v:List Int):List Int:=bif rdB k w v then X2 k w v else []
def D8:aO:=fun args h=>
 match args,h with
 |[.c (.int .i64 k),.c (.view _ (.ints .i64 w) n 1 _),.c (.view _ (.ints .i64 v) n2 1 _)],[]=>
  some (.tup [.c (.sl 0 0 (rdX k w v).length 1 none),.c (.bool (rdB k w v))],[.live (.ints .i64 (rdX k w v))],[decide (v.length≤8),bet k 1 2,bD v,decide (w.length=8),aD w,dU k w v])
 |_,_=>none
theorem a1P:aT Tryz.prog 183 D8:=by
 intro args h res h' o hnorm he ho
 unfold D8 at he
 split at he
 case h_2=>cases he
 rename_i k nl w n cap nl2 v n2 cap2
 simp only[Option.some.injEq,Prod.mk.injEq]at he
 obtain⟨rfl,rfl,rfl⟩:=he
 simp only[List.mem_cons,List.not_mem_nil,or_false,forall_eq_or_imp,forall_eq,decide_eq_true_eq]at ho
 obtain⟨o1,o2,o3,o4,o5,o6⟩:=ho
 simp only[b8,AV.norm,bA,aI.norm,Con.size,List.cons.injEq,AV.c.injEq,AV.agg.injEq,aI.view.injEq,aN,true_and,and_true]at hnorm
 obtain⟨⟨rfl,rfl,rfl⟩,rfl,rfl,rfl⟩:=hnorm
 unfold rdX
 cases hr:rdB k w v with
 |true=>
  have hr':=hr
  simp only[rdB,Bool.and_eq_true,rpS]at hr'
  exact a9Z _ _ _ _ _ (by simp only[b8,AV.norm,aI.norm,Con.size,aN]) rfl (by simp[o1,o2,o3,o4,o5,o6,hr'.1,hr'.2])
 |false=>
  exact bF.nilTup (h':=[]) (c0:=.ints .i64 []) (a1O _ _ (.tup [.c .nils,.c (.bool false)]) [] _ (by simp only[b8,AV.norm,aI.norm,Con.size,aN]) rfl (by simp only[rdB]at hr;simp[o1,o2,o3,o4,o5,o6,hr])) rfl
noncomputable def T41:List aZ:=[⟨183,[],nm D8⟩]++T40
theorem e41:aA Tryz.prog T41:=by
 refine aA.append ?_ e40
 intro e he
 simp only[List.mem_cons,List.not_mem_nil,or_false]at he
 subst he;exact a1P.ok
theorem t41:bL Tryz.prog (aH T41):=aQ e41
noncomputable def I65 (k:Int) (a b:List Int) (c:List Bool) (v:List Int) (i:Int):St:=
 aS f65.ntmps [(1,.c (.ptr 0 0 0 0)),(10,.c (.sl 1 0 v.length 1 none)),(11,.c (.int .i64 v.length)),(12,.c (.int .i64 i))] [.live (.cells [.int .i64 k,.view none (.ints .i64 a) a.length 1 none,.view none (.ints .i64 b) b.length 1 none,.view none (.bools c) c.length 1 none]),.live (.ints .i64 v)]
noncomputable def Y65 (k:Int) (a b:List Int) (c:List Bool) (x:Int):St:=
 aS f65.ntmps [(2,.c (.sl 0 0 (rdX k a (ofL b c x)).length 1 none)),(3,.c (.int .i64 x)),(4,.c (.bool true))] [.live (.ints .i64 (rdX k a (ofL b c x)))]
noncomputable def X65:St:=aS f65.ntmps [] []
def EU (k:Int) (a b:List Int) (c:List Bool) (v:List Int) (i:Int):=bt4 (ofL b c (v.getD i.toNat 0)) (aM tt (aH T41) ([]) 0 100 (aC 0 (aB f65)) (I65 k a b c v i)) (aK 0 (aE f65 0) (aG f65 0)) (↑v.length:Int) (P:=fun q0 q1 q2 q3=>q2 (q1 [(0,true),(0,true)])=
  some (.ret,(decide (i<q3)&&(decide (0≤i)&&(decide (i<q3)&&(decide (i.toNat<v.length)&&(decide (c.length≤274877906944)&&(decide (b.length=c.length)&&(decide (q0.length=q0.length)&&(decide (q0.length≤8)&&(bet k 1 2&&(bD q0&&(decide (a.length=8)&&(aD a&&(dU k a q0&&((rdB k a q0)&&true)))))))))))))),[],Y65 k a b c (v.getD i.toNat 0))∧q2 (q1 [(0,true),(0,false)])=
  some (.normal,(decide (i<q3)&&(decide (0≤i)&&(decide (i<q3)&&(decide (i.toNat<v.length)&&(decide (c.length≤274877906944)&&(decide (b.length=c.length)&&(decide (q0.length=q0.length)&&(decide (q0.length≤8)&&(bet k 1 2&&(bD q0&&(decide (a.length=8)&&(aD a&&(dU k a q0&&((!rdB k a q0)&&true)))))))))))))),[],I65 k a b c v (IntKind.i64.wrap (i+1)))∧q2 (q1 [(0,false)])=
  some (.exit 0,((!decide (i<q3))&&true),[],X65)) ⟨by kernel_rfl,by kernel_rfl,by kernel_rfl⟩
def a30 (k:Int) (a b:List Int) (c:List Bool) (v:List Int) (i:Int):=(EU k a b c v i).1
def a31 (k:Int) (a b:List Int) (c:List Bool) (v:List Int) (i:Int):=(EU k a b c v i).2.1
def a32 (k:Int) (a b:List Int) (c:List Bool) (v:List Int) (i:Int):=(EU k a b c v i).2.2
theorem xB (q:Int→Bool) (v:List Int): ∀(n i:Nat),i+n=v.length→cG (fun i (_:Unit)=>bif q (v.getD i 0)then .inr (v.getD i 0)else .inl ()) n i ()=match(v.drop i).find? q with|some x=> .inr x|none=> .inl ()
 |0,i,h=>by rw[List.drop_eq_nil_of_le (by omega)];rfl
 |n+1,i,h=>by
  have hi:i<v.length:=by omega
  rw[List.drop_eq_getElem_cons hi]
  have hg:v.getD i 0=v[i]:=by rw[List.getD_eq_getElem?_getD,List.getElem?_eq_getElem hi];rfl
  simp only[cG,List.find?_cons]
  rw[hg]
  cases hq:q v[i]with
  |true=>rfl
  |false=>simp only[cond_false];exact xB q v n (i+1) (by omega)
def rdV (k:Int) (a b:List Int) (c:List Bool):Option Int:=(bO b c).find? fun x=>rdB k a (ofL b c x)
def okE:Option Int→Ex
 |some _=> .ret
 |none=> .normal
noncomputable def okS (k:Int) (a b:List Int) (c:List Bool):Option Int→St
 |some x=>Y65 k a b c x
 |none=>X65
theorem l65 (k:Int) (a b:List Int) (c:List Bool) (hk:bet k 1 2=true) (ha:a.length=8) (haf:aD a=true) (hb:b.length=8) (hc:c.length=8):
  aP none Tryz.prog 0 (.block 0 (.loop (aC 0 (aB f65)))) (I65 k a b c (bO b c) 0) fun e t=>e=okE (rdV k a b c)∧t=okS k a b c (rdV k a b c):=by
 have hv:=xI b c
 have key:=aP.countE (ro:=none) hT t41 bE (m:=0) (id:=0) (body:=aC 0 (aB f65)) (bO b c).length (fun _ _=>True) (fun i _=>I65 k a b c (bO b c) i) (fun _=>X65) (fun x=>Y65 k a b c x) .ret (.inr rfl)
  (fun i (_:Unit)=>bif rdB k a (ofL b c ((bO b c).getD i 0))then .inr ((bO b c).getD i 0)else .inl ()) (aE f65 0) (aG f65 0) (fun _ _=>[]) (fun _ _ _ _=>aL.nil) (fun i _ hi _=> ?_)
  (fun _ _=>⟨_,_,⟨_,_,a32 k a b c (bO b c) (bO b c).length,by simp,by simp⟩⟩) () trivial
 ·refine aP.mono key fun e t h=> ?_
  rw[xB (fun x=>rdB k a (ofL b c x)) (bO b c) _ 0 (by omega)]at h
  revert h
  show _→e=okE ((bO b c).find? fun x=>rdB k a (ofL b c x))∧t=okS k a b c ((bO b c).find? fun x=>rdB k a (ofL b c x))
  rw[List.drop_zero]
  cases (bO b c).find? fun x=>rdB k a (ofL b c x)<;>exact fun h=>h
 ·have hs:=uD (b:=b) (vs:=(bO b c).getD i 0) hc
  have ho:=C6 (w:=a) (b:=b) (c:=c) (vs:=(bO b c).getD i 0) hk hc
  cases hq:rdB k a (ofL b c ((bO b c).getD i 0))with
  |true=>
   refine .inr ⟨_,rfl, ?_⟩
   have e:=a30 k a b c (bO b c) i
   rw[Int.toNat_natCast]at e
   rw[if_neg (by intro h;cases h)]
   refine⟨_,_,⟨_,_,e, ?_,by simp⟩⟩
   simp only[hq,hk,hs.1,haf,ho,Bool.true_and,rpS,Bool.and_true,Bool.and_eq_true,decide_eq_true_eq,true_and,and_true]
   omega
  |false=>
   refine .inl ⟨(),rfl,trivial, ?_⟩
   have e:=a31 k a b c (bO b c) i
   rw[aF (by omega) (by omega),Int.toNat_natCast]at e
   refine⟨_,_,⟨_,_,e, ?_,by simp⟩⟩
   simp only[hq,hk,hs.1,haf,ho,Bool.not_false,Bool.true_and,rpS,Bool.and_true,Bool.and_eq_true,decide_eq_true_eq,true_and,and_true]
   omega
theorem Z0 (k:Int) (a b:List Int) (c:List Bool) (x:Int):aJ tt (aH T41) ([(0,⟨aE f65 0,I65 k a b c (bO b c) 0,.ret,Y65 k a b c x⟩)]) 100 f65 [.agg [.int .i64 k,.view none (.ints .i64 a) a.length 1 none,.view none (.ints .i64 b) b.length 1 none,.view none (.bools c) c.length 1 none]] [] []=
  some ⟨.tup [.c (.sl 0 0 (rdX k a (ofL b c x)).length 1 none),.c (.int .i64 x),.c (.bool true)],[.live (.ints .i64 (rdX k a (ofL b c x)))],(decide (c.length≤8)&&((decide (b.length=c.length))&&true)),[I65 k a b c (bO b c) 0=I65 k a b c (bO b c) 0]⟩:=by kernel_rfl
theorem Z1 (k:Int) (a b:List Int) (c:List Bool):aJ tt (aH T41) ([(0,⟨aE f65 0,I65 k a b c (bO b c) 0,.normal,X65⟩)]) 100 f65 [.agg [.int .i64 k,.view none (.ints .i64 a) a.length 1 none,.view none (.ints .i64 b) b.length 1 none,.view none (.bools c) c.length 1 none]] [] []=
  some ⟨.tup [.c .nils,.c (.int .i64 0),.c (.bool false)],[],(decide (c.length≤8)&&((decide (b.length=c.length))&&true)),[I65 k a b c (bO b c) 0=I65 k a b c (bO b c) 0]⟩:=by kernel_rfl
def rdD (k:Int) (a b:List Int) (c:List Bool):List Int:=match rdV k a b c with|some x=>rdX k a (ofL b c x)|none=>[]
def rdN (k:Int) (a b:List Int) (c:List Bool):Int:=match rdV k a b c with|some x=>x|none=>0
def rdS (k:Int) (a b:List Int) (c:List Bool):Bool:=match rdV k a b c with|some _=>true|none=>false
def xX:aO:=fun args h=>
 match args,h with
 |[.agg [.int .i64 k,.view _ (.ints .i64 a) n1 1 _,.view _ (.ints .i64 b) n2 1 _,.view _ (.bools c) n3 1 _]],[]=>
  some (.tup [.c (.sl 0 0 (rdD k a b c).length 1 none),.c (.int .i64 (rdN k a b c)),.c (.bool (rdS k a b c))],[.live (.ints .i64 (rdD k a b c))],[decide (c.length=8),decide (b.length=8),decide (a.length=8),bet k 1 2,aD a])
 |_,_=>none
theorem m65:aT Tryz.prog 131 xX:=by
 intro args h res h' o hnorm he ho
 unfold xX at he
 split at he
 case h_2=>cases he
 rename_i k nl1 a n1 cap1 nl2 b n2 cap2 nl3 c n3 cap3
 simp only[Option.some.injEq,Prod.mk.injEq]at he
 obtain⟨rfl,rfl,rfl⟩:=he
 simp only[List.mem_cons,List.not_mem_nil,or_false,forall_eq_or_imp,forall_eq,decide_eq_true_eq]at ho
 obtain⟨o1,o2,o3,o4,o5⟩:=ho
 simp only[b8,AV.norm,bA,aI.norm,Con.size,List.cons.injEq,AV.c.injEq,AV.agg.injEq,aI.view.injEq,aN,true_and,and_true]at hnorm
 obtain⟨⟨rfl,rfl,rfl⟩,⟨rfl,rfl,rfl⟩,rfl,rfl,rfl⟩:=hnorm
 have g:=l65 k a b c o4 o3 o5 o2 o1
 unfold rdD rdN rdS
 cases hr:rdV k a b c with
 |some x=>
  rw[hr]at g
  exact mo (fn:=f65) t41 (Z0 k a b c x) (by simp[o1,o2]) (hlc:=(fun cc hcc=>aL.cons (c:=cc) (by cases hcc;kernel_rfl) (by cases hcc;exact g) aL.nil))
 |none=>
  rw[hr]at g
  exact bF.nilTup (h':=[]) (c0:=.ints .i64 []) (mo (fn:=f65) t41 (Z1 k a b c) (by simp[o1,o2]) (hlc:=(fun cc hcc=>aL.cons (c:=cc) (by cases hcc;kernel_rfl) (by cases hcc;exact g) aL.nil))) rfl
noncomputable def T42:List aZ:=[⟨131,[],nm xX⟩]++T41
theorem e42:aA Tryz.prog T42:=by
 refine aA.append ?_ e41
 intro e he
 simp only[List.mem_cons,List.not_mem_nil,or_false]at he
 subst he;exact m65.ok
theorem t42:bL Tryz.prog (aH T42):=aQ e42
def NL (k:Int) (a b:List Int) (c:List Bool):=bt1 (aJ tt (aH T42) ([]) 100 Tryz.f174 [.agg [.int .i64 k,.view none (.ints .i64 a) a.length 1 none,.view none (.ints .i64 b) b.length 1 none,.view none (.bools c) c.length 1 none]] []) (P:=fun q0=>q0 [(0,true)]=
  some ⟨.tup [.c .nils,.c (.int .i64 0),.c (.bool false)],[],((!bU k a b c)&&true),[]⟩∧q0 [(0,false)]=
  some ⟨.tup [.c (.sl 0 0 (rdD k a b c).length 1 none),.c (.int .i64 (rdN k a b c)),.c (.bool (rdS k a b c))],[.live (.ints .i64 (rdD k a b c))],(!!bU k a b c&&(decide (c.length=8)&&(decide (b.length=8)&&(decide (a.length=8)&&(bet k 1 2&&((aD a)&&true)))))),[]⟩) ⟨by kernel_rfl,by kernel_rfl⟩
def a5R (k:Int) (a b:List Int) (c:List Bool):=(NL k a b c).1
def a5S (k:Int) (a b:List Int) (c:List Bool):=(NL k a b c).2
end
section
theorem fA {k:Int} {a b:List Int} {c:List Bool} (h:bU k a b c=true):bet k 1 2=true∧a.length=8∧b.length=8∧c.length=8∧aD a=true:=by
 simp only[bU,Bool.and_eq_true,rpS]at h
 obtain⟨h1,h2,h3,h4⟩:=h
 obtain⟨ha,hb,hc⟩:=f9.1 h2
 exact⟨h1,ha,hb,hc,BZ ha h3⟩
def srD (k:Int) (a b:List Int) (c:List Bool):List Int:=bif bU k a b c then rdD k a b c else []
def srN (k:Int) (a b:List Int) (c:List Bool):Int:=bif bU k a b c then rdN k a b c else 0
def srS (k:Int) (a b:List Int) (c:List Bool):Bool:=bif bU k a b c then rdS k a b c else false
def y4:aO:=fun args h=>
 match args,h with
 |[.agg [.int .i64 k,.view _ (.ints .i64 a) n1 1 _,.view _ (.ints .i64 b) n2 1 _,.view _ (.bools c) n3 1 _]],[]=>
  some (.tup [.c (.sl 0 0 (srD k a b c).length 1 none),.c (.int .i64 (srN k a b c)),.c (.bool (srS k a b c))],[.live (.ints .i64 (srD k a b c))],[])
 |_,_=>none
theorem m40:aT Tryz.prog 174 y4:=by
 intro args h res h' o hnorm he ho
 unfold y4 at he
 split at he
 case h_2=>cases he
 rename_i k nl1 a n1 cap1 nl2 b n2 cap2 nl3 c n3 cap3
 simp only[Option.some.injEq,Prod.mk.injEq]at he
 obtain⟨rfl,rfl,rfl⟩:=he
 simp only[b8,AV.norm,bA,aI.norm,Con.size,List.cons.injEq,AV.c.injEq,AV.agg.injEq,aI.view.injEq,aN,true_and,and_true]at hnorm
 obtain⟨⟨rfl,rfl,rfl⟩,⟨rfl,rfl,rfl⟩,rfl,rfl,rfl⟩:=hnorm
 unfold srD srN srS
 cases hr:bU k a b c with
 |true=>
  obtain⟨o1,o2,o3,o4,o5⟩:=fA hr
  exact mo t42 (a5S k a b c) (by simp[hr,o1,o2,o3,o4,o5])
 |false=>
  exact bF.nilTup (h':=[]) (c0:=.ints .i64 []) (mo t42 (a5R k a b c) (by simp[hr])) rfl
noncomputable def T43:List aZ:=[⟨174,[],nm y4⟩]++T42
theorem e43:aA Tryz.prog T43:=by
 refine aA.append ?_ e42
 intro e he
 simp only[List.mem_cons,List.not_mem_nil,or_false]at he
 subst he;exact m40.ok
theorem t43:bL Tryz.prog (aH T43):=aQ e43
noncomputable abbrev f22:=Tryz.f129
def lC (kd:Int) (d:List Int):List Int:=mC kd [ifI (bG d 4) (d.getD 0 0),ifI (bG d 4) (d.getD 1 0),ifI (bG d 4) (d.getD 2 0),ifI (bG d 4) (d.getD 3 0)]
noncomputable def I22 (k:Int) (a b:List Int) (c:List Bool) (on:Bool) (kd:Int) (d:List Int) (vs:Int) (ev:List Int) (i:Int):St:=
 aS f22.ntmps [(1,.c (.ptr 0 0 0 0)),(9,.c (.sl 1 0 8 1 none)),(96,.c (.view none (.ints .i64 b) b.length 1 none)),(97,.c (.int .i64 b.length)),(98,.c (.int .i64 i))] [.live (.cells [.int .i64 k,.view none (.ints .i64 a) a.length 1 none,.view none (.ints .i64 b) b.length 1 none,.view none (.bools c) c.length 1 none,.bool on,.int .i64 kd,.view none (.ints .i64 d) d.length 1 none,.int .i64 vs]),.live (.ints .i64 ev)]
noncomputable def X22:St:=aS f22.ntmps [] []
noncomputable def Y22:St:=aS f22.ntmps [(2,.c (.bool false))] []
def uK (k:Int) (a b:List Int) (c:List Bool) (on:Bool) (kd:Int) (d:List Int) (vs:Int) (ev:List Int) (i:Int):=E6 (aM tt (aH T43) ([]) 0 100 (aC 0 (aB f22)) (I22 k a b c on kd d vs ev i)) (b.getD i.toNat 0==vs) (!!c.getD i.toNat false) (aK 0 (aE f22 0) (aG f22 0)) (↑b.length:Int) (!c.getD i.toNat false) (↑c.length:Int) (IntKind.i64.wrap (i+1)) (!b.getD i.toNat 0==vs) (↑a.length:Int) (P:=fun q0 q1 q2 q3 q4 q5 q6 q7 q8 q9=>q3 (q0 [(0,true),(0,true),(0,true),(0,true)])=
  some (.ret,(decide (i<q4)&&(decide (0≤i)&&(decide (i<q4)&&(decide (i.toNat<b.length)&&(rp5 q1 (decide (0≤i)&&(decide (i<q6)&&(q1&&(decide (i.toNat<c.length)&&(rp2 q1 (rp2 q5 (rp9 q5 (q1&&(q5&&((bif b.getD i.toNat 0==vs then true else false)&&true))))))))))))))),[],Y22)∧q3 (q0 [(0,true),(0,true),(0,false),(0,true)])=
  some (.ret,(decide (i<q4)&&(decide (0≤i)&&(decide (i<q4)&&(decide (i.toNat<b.length)&&(rp5 q1 (decide (0≤i)&&(decide (i<q6)&&(q1&&(decide (i.toNat<c.length)&&(rp2 q1 (rp5 q2 (decide (0≤i)&&(decide (i<q9)&&(q2&&(decide (i.toNat<a.length)&&(rp3 q2 (decide (0≤i)&&(decide (i<8)&&(q2&&(decide (i.toNat<ev.length)&&(q2&&(q1&&((bif b.getD i.toNat 0==vs then bif !c.getD i.toNat false then true else a.getD i.toNat 0 !=ev.getD i.toNat 0 else false)&&true))))))))))))))))))))))),[],Y22)∧q3 (q0 [(0,true),(0,true),(0,false),(0,false)])=
  some (.normal,(decide (i<q4)&&(decide (0≤i)&&(decide (i<q4)&&(decide (i.toNat<b.length)&&(rp5 q1 (decide (0≤i)&&(decide (i<q6)&&(q1&&(decide (i.toNat<c.length)&&(rp2 q1 (rp5 q2 (decide (0≤i)&&(decide (i<q9)&&(q2&&(decide (i.toNat<a.length)&&(rp3 q2 (decide (0≤i)&&(decide (i<8)&&(q2&&(decide (i.toNat<ev.length)&&(q2&&(q1&&((!bif b.getD i.toNat 0==vs then bif !c.getD i.toNat false then true else a.getD i.toNat 0 !=ev.getD i.toNat 0 else false)&&true))))))))))))))))))))))),[],I22 k a b c on kd d vs ev q7)∧q3 (q0 [(0,true),(0,false)])=
  some (.normal,(decide (i<q4)&&(decide (0≤i)&&(decide (i<q4)&&(decide (i.toNat<b.length)&&(q8&&(rp9 q8 true)))))),[],I22 k a b c on kd d vs ev q7)∧q3 (q0 [(0,false)])=
  some (.exit 0,((!decide (i<q4))&&true),[],X22)) ⟨by kernel_rfl,by kernel_rfl,by kernel_rfl,by kernel_rfl,by kernel_rfl⟩
def a27 (k:Int) (a b:List Int) (c:List Bool) (on:Bool) (kd:Int) (d:List Int) (vs:Int) (ev:List Int) (i:Int):=(uK k a b c on kd d vs ev i).1
def a28 (k:Int) (a b:List Int) (c:List Bool) (on:Bool) (kd:Int) (d:List Int) (vs:Int) (ev:List Int) (i:Int):=(uK k a b c on kd d vs ev i).2.1
def a29 (k:Int) (a b:List Int) (c:List Bool) (on:Bool) (kd:Int) (d:List Int) (vs:Int) (ev:List Int) (i:Int):=(uK k a b c on kd d vs ev i).2.2.1
def a2A (k:Int) (a b:List Int) (c:List Bool) (on:Bool) (kd:Int) (d:List Int) (vs:Int) (ev:List Int) (i:Int):=(uK k a b c on kd d vs ev i).2.2.2.1
def a2B (k:Int) (a b:List Int) (c:List Bool) (on:Bool) (kd:Int) (d:List Int) (vs:Int) (ev:List Int) (i:Int):=(uK k a b c on kd d vs ev i).2.2.2.2
def eV (k:Int) (a b:List Int) (c:List Bool) (on:Bool) (kd:Int) (d:List Int) (vs:Int) (lcv:List (Nat×LC)):=a8J (aJ tt (aH T43) (lcv) 100 f22 [.agg [.int .i64 k,.view none (.ints .i64 a) a.length 1 none,.view none (.ints .i64 b) b.length 1 none,.view none (.bools c) c.length 1 none,.bool on,.int .i64 kd,.view none (.ints .i64 d) d.length 1 none,.int .i64 vs]] []) (bV a b c vs) (!bif bif !bG d 4 then true else !bet kd 1 2 then true else !bet vs 1 99) (!bif bif bif !bG d 4 then true else !bet kd 1 2 then true else !bet vs 1 99 then true else !d5 a b c) (!bif !bG d 4 then true else !bet kd 1 2) (bif bif bif srS k a b c then kd==0 else false then(↑d.length:Int)==0 else false then vs==0 else false) (bif bif srS k a b c then kd==0 else false then(↑d.length:Int)==0 else false) (bif srS k a b c then kd==0 else false) (!!bG d 4) (↑d.length:Int) (srS k a b c) (P:=fun q0 q1 q2 q3 q4 q5 q6 q7 q8 q9 q10=>q0 [(0,true),(0,true),(0,true),(0,true),(0,true)]=
  some ⟨.c (.bool (bif bif bif bif srS k a b c then kd==0 else false then q9==0 else false then vs==0 else false then(↑(bO b c).length:Int)==1 else false)),[],((!on)&&(rp3 q10 (rp4 q7 (rp3 q6 (rp3 q5 (decide (c.length≤8)&&(decide (b.length=c.length)&&(rp2 q5 true)))))))),[]⟩∧q0 [(0,true),(0,true),(0,true),(0,true),(0,false)]=
  some ⟨.c (.bool false),[],((!on)&&(rp3 q10 (rp4 q7 (rp3 q6 (rp6 (!bif bif bif srS k a b c then kd==0 else false then q9==0 else false then vs==0 else false) true))))),[]⟩∧q0 [(0,true),(0,true),(0,true),(0,false)]=
  some ⟨.c (.bool false),[],((!on)&&(rp3 q10 (rp4 q7 (rp4 (!bif bif srS k a b c then kd==0 else false then q9==0 else false) true)))),[]⟩∧q0 [(0,true),(0,true),(0,false)]=
  some ⟨.c (.bool false),[],((!on)&&(rp3 q10 (rp5 (!bif srS k a b c then kd==0 else false) true))),[]⟩∧q0 [(0,true),(0,false)]=
  some ⟨.c (.bool false),[],((!on)&&(rp3 (!srS k a b c) ((!srS k a b c)&&true))),[]⟩∧q0 [(0,false),(0,true)]=
  some ⟨.c (.bool false),[],((!!on)&&(decide (d.length≤274877906944)&&(rp4 (!bG d 4) ((!bG d 4)&&true)))),[]⟩∧q0 [(0,false),(0,false),(0,true)]=
  some ⟨.c (.bool false),[],((!!on)&&(decide (d.length≤274877906944)&&(rp4 q8 (rp5 (bif !bG d 4 then true else !bet kd 1 2) true)))),[]⟩∧q0 [(0,false),(0,false),(0,false),(0,true)]=
  some ⟨.c (.bool false),[],((!!on)&&(decide (d.length≤274877906944)&&(rp4 q8 (rp4 q4 (rp5 (bif bif !bG d 4 then true else !bet kd 1 2 then true else !bet vs 1 99) true))))),[]⟩∧q0 [(0,false),(0,false),(0,false),(0,false),(0,true)]=
  some ⟨.c (.bool false),[],((!!on)&&(decide (d.length≤274877906944)&&(rp4 q8 (rp4 q4 (rp4 q2 ((bif bif bif !bG d 4 then true else !bet kd 1 2 then true else !bet vs 1 99 then true else !d5 a b c)&&true)))))),[]⟩∧q0 [(0,false),(0,false),(0,false),(0,false),(0,false),(0,true)]=
  some ⟨.c (.bool false),[],((!!on)&&(decide (d.length≤274877906944)&&(rp4 q8 (rp4 q4 (rp4 q2 (q3&&(decide (b.length≤274877906944)&&(decide (a.length=b.length)&&(decide (c.length=b.length)&&(decide (a.length=q1.fst.length)&&(decide (b.length=q1.2.1.length)&&(decide (c.length=q1.2.2.length)&&(rp4 (!bU k q1.fst q1.2.1 q1.2.2) ((!bU k q1.fst q1.2.1 q1.2.2)&&true)))))))))))))),[]⟩∧q0 [(0,false),(0,false),(0,false),(0,false),(0,false),(0,false),(0,true)]=
  some ⟨.c (.bool false),[],((!!on)&&(decide (d.length≤274877906944)&&(rp4 q8 (rp4 q4 (rp4 q2 (q3&&(decide (b.length≤274877906944)&&(decide (a.length=b.length)&&(decide (c.length=b.length)&&(decide (a.length=q1.fst.length)&&(decide (b.length=q1.2.1.length)&&(decide (c.length=q1.2.2.length)&&(rp2 (!!bU k q1.fst q1.2.1 q1.2.2) (decide (a.length=q1.fst.length)&&(decide (b.length=q1.2.1.length)&&(decide (c.length=q1.2.2.length)&&(decide (q1.2.2.length≤8)&&(decide (q1.2.1.length=q1.2.2.length)&&(rp2 (!!bU k q1.fst q1.2.1 q1.2.2) (rp6 (bif !bU k q1.fst q1.2.1 q1.2.2 then true else decide ((↑(bO q1.2.1 q1.2.2).length:Int)>1)) true)))))))))))))))))))),[]⟩∧q0 [(0,false),(0,false),(0,false),(0,false),(0,false),(0,false),(0,false),(0,true)]=
  some ⟨.c (.bool false),[],((!!on)&&(decide (d.length≤274877906944)&&(rp4 q8 (rp4 q4 (rp4 q2 (q3&&(decide (b.length≤274877906944)&&(decide (a.length=b.length)&&(decide (c.length=b.length)&&(decide (a.length=q1.fst.length)&&(decide (b.length=q1.2.1.length)&&(decide (c.length=q1.2.2.length)&&(rp2 (!!bU k q1.fst q1.2.1 q1.2.2) (decide (a.length=q1.fst.length)&&(decide (b.length=q1.2.1.length)&&(decide (c.length=q1.2.2.length)&&(decide (q1.2.2.length≤8)&&(decide (q1.2.1.length=q1.2.2.length)&&(rp2 (!!bU k q1.fst q1.2.1 q1.2.2) (rp2 (!bif !bU k q1.fst q1.2.1 q1.2.2 then true else decide ((↑(bO q1.2.1 q1.2.2).length:Int)>1)) (decide (a.length=q1.fst.length)&&(decide (b.length=q1.2.1.length)&&(decide (c.length=q1.2.2.length)&&(decide (q1.2.2.length≤8)&&(decide (q1.2.1.length=q1.2.2.length)&&(rp3 (!bif !bU k q1.fst q1.2.1 q1.2.2 then true else decide ((↑(bO q1.2.1 q1.2.2).length:Int)>1)) ((bif bif !bU k q1.fst q1.2.1 q1.2.2 then true else decide ((↑(bO q1.2.1 q1.2.2).length:Int)>1)then true else decide (iH q1.2.1 q1.2.2≥vs))&&true))))))))))))))))))))))))))),[]⟩) ⟨by kernel_rfl,by kernel_rfl,by kernel_rfl,by kernel_rfl,by kernel_rfl,by kernel_rfl,by kernel_rfl,by kernel_rfl,by kernel_rfl,by kernel_rfl,by kernel_rfl,by kernel_rfl⟩
def YL (k:Int) (a b:List Int) (c:List Bool) (on:Bool) (kd:Int) (d:List Int) (vs:Int) (lcv:List (Nat×LC)):=(eV k a b c on kd d vs lcv).1
def YM (k:Int) (a b:List Int) (c:List Bool) (on:Bool) (kd:Int) (d:List Int) (vs:Int) (lcv:List (Nat×LC)):=(eV k a b c on kd d vs lcv).2.1
def YN (k:Int) (a b:List Int) (c:List Bool) (on:Bool) (kd:Int) (d:List Int) (vs:Int) (lcv:List (Nat×LC)):=(eV k a b c on kd d vs lcv).2.2.1
def YO (k:Int) (a b:List Int) (c:List Bool) (on:Bool) (kd:Int) (d:List Int) (vs:Int) (lcv:List (Nat×LC)):=(eV k a b c on kd d vs lcv).2.2.2.1
def YP (k:Int) (a b:List Int) (c:List Bool) (on:Bool) (kd:Int) (d:List Int) (vs:Int) (lcv:List (Nat×LC)):=(eV k a b c on kd d vs lcv).2.2.2.2.1
def YQ (k:Int) (a b:List Int) (c:List Bool) (on:Bool) (kd:Int) (d:List Int) (vs:Int) (lcv:List (Nat×LC)):=(eV k a b c on kd d vs lcv).2.2.2.2.2.1
def YR (k:Int) (a b:List Int) (c:List Bool) (on:Bool) (kd:Int) (d:List Int) (vs:Int) (lcv:List (Nat×LC)):=(eV k a b c on kd d vs lcv).2.2.2.2.2.2.1
def YS (k:Int) (a b:List Int) (c:List Bool) (on:Bool) (kd:Int) (d:List Int) (vs:Int) (lcv:List (Nat×LC)):=(eV k a b c on kd d vs lcv).2.2.2.2.2.2.2.1
def YT (k:Int) (a b:List Int) (c:List Bool) (on:Bool) (kd:Int) (d:List Int) (vs:Int) (lcv:List (Nat×LC)):=(eV k a b c on kd d vs lcv).2.2.2.2.2.2.2.2.1
def RV (k:Int) (a b:List Int) (c:List Bool) (on:Bool) (kd:Int) (d:List Int) (vs:Int) (lcv:List (Nat×LC)):=(eV k a b c on kd d vs lcv).2.2.2.2.2.2.2.2.2.1
def RW (k:Int) (a b:List Int) (c:List Bool) (on:Bool) (kd:Int) (d:List Int) (vs:Int) (lcv:List (Nat×LC)):=(eV k a b c on kd d vs lcv).2.2.2.2.2.2.2.2.2.2.1
def RX (k:Int) (a b:List Int) (c:List Bool) (on:Bool) (kd:Int) (d:List Int) (vs:Int) (lcv:List (Nat×LC)):=(eV k a b c on kd d vs lcv).2.2.2.2.2.2.2.2.2.2.2
def RY (k:Int) (a b:List Int) (c:List Bool) (on:Bool) (kd:Int) (d:List Int) (vs:Int):=bt3 (bV a b c vs) (bG d 4) (lC kd d) (P:=fun q0 q1 q2=>(aJ tt (aH T43) ([(0,⟨aE f22 0,I22 k a b c on kd d vs q2 0,.normal,X22⟩)]) 100 f22 [.agg [.int .i64 k,.view none (.ints .i64 a) a.length 1 none,.view none (.ints .i64 b) b.length 1 none,.view none (.bools c) c.length 1 none,.bool on,.int .i64 kd,.view none (.ints .i64 d) d.length 1 none,.int .i64 vs]] []) [(0,false),(0,false),(0,false),(0,false),(0,false),(0,false),(0,false),(0,false)]=
  some ⟨.c (.bool true),[],((!!on)&&(decide (d.length≤274877906944)&&(rp4 (!!bG d 4) (rp4 (!bif !bG d 4 then true else !bet kd 1 2) (rp4 (!bif bif !bG d 4 then true else !bet kd 1 2 then true else !bet vs 1 99) ((!bif bif bif !bG d 4 then true else !bet kd 1 2 then true else !bet vs 1 99 then true else !d5 a b c)&&(decide (b.length≤274877906944)&&(decide (a.length=b.length)&&(decide (c.length=b.length)&&(decide (a.length=q0.fst.length)&&(decide (b.length=q0.2.1.length)&&(decide (c.length=q0.2.2.length)&&(rp2 (!!bU k q0.fst q0.2.1 q0.2.2) (decide (a.length=q0.fst.length)&&(decide (b.length=q0.2.1.length)&&(decide (c.length=q0.2.2.length)&&(decide (q0.2.2.length≤8)&&(decide (q0.2.1.length=q0.2.2.length)&&(rp2 (!!bU k q0.fst q0.2.1 q0.2.2) (rp2 (!bif !bU k q0.fst q0.2.1 q0.2.2 then true else decide ((↑(bO q0.2.1 q0.2.2).length:Int)>1)) (decide (a.length=q0.fst.length)&&(decide (b.length=q0.2.1.length)&&(decide (c.length=q0.2.2.length)&&(decide (q0.2.2.length≤8)&&(decide (q0.2.1.length=q0.2.2.length)&&(rp3 (!bif !bU k q0.fst q0.2.1 q0.2.2 then true else decide ((↑(bO q0.2.1 q0.2.2).length:Int)>1)) ((!bif bif !bU k q0.fst q0.2.1 q0.2.2 then true else decide ((↑(bO q0.2.1 q0.2.2).length:Int)>1)then true else decide (iH q0.2.1 q0.2.2≥vs))&&(bet kd 1 2&&(fok (ifI q1 (d.getD 0 0))&&(fok (ifI q1 (d.getD 1 0))&&(fok (ifI q1 (d.getD 2 0))&&((fok (ifI q1 (d.getD 3 0)))&&true)))))))))))))))))))))))))))))))),[I22 k a b c on kd d vs q2 0=I22 k a b c on kd d vs q2 0]⟩) (by kernel_rfl)
def RZ (k:Int) (a b:List Int) (c:List Bool) (on:Bool) (kd:Int) (d:List Int) (vs:Int):=bt3 (bV a b c vs) (bG d 4) (lC kd d) (P:=fun q0 q1 q2=>(aJ tt (aH T43) ([(0,⟨aE f22 0,I22 k a b c on kd d vs q2 0,.ret,Y22⟩)]) 100 f22 [.agg [.int .i64 k,.view none (.ints .i64 a) a.length 1 none,.view none (.ints .i64 b) b.length 1 none,.view none (.bools c) c.length 1 none,.bool on,.int .i64 kd,.view none (.ints .i64 d) d.length 1 none,.int .i64 vs]] []) [(0,false),(0,false),(0,false),(0,false),(0,false),(0,false),(0,false),(0,false)]=
  some ⟨.c (.bool false),[],((!!on)&&(decide (d.length≤274877906944)&&(rp4 (!!bG d 4) (rp4 (!bif !bG d 4 then true else !bet kd 1 2) (rp4 (!bif bif !bG d 4 then true else !bet kd 1 2 then true else !bet vs 1 99) ((!bif bif bif !bG d 4 then true else !bet kd 1 2 then true else !bet vs 1 99 then true else !d5 a b c)&&(decide (b.length≤274877906944)&&(decide (a.length=b.length)&&(decide (c.length=b.length)&&(decide (a.length=q0.fst.length)&&(decide (b.length=q0.2.1.length)&&(decide (c.length=q0.2.2.length)&&(rp2 (!!bU k q0.fst q0.2.1 q0.2.2) (decide (a.length=q0.fst.length)&&(decide (b.length=q0.2.1.length)&&(decide (c.length=q0.2.2.length)&&(decide (q0.2.2.length≤8)&&(decide (q0.2.1.length=q0.2.2.length)&&(rp2 (!!bU k q0.fst q0.2.1 q0.2.2) (rp2 (!bif !bU k q0.fst q0.2.1 q0.2.2 then true else decide ((↑(bO q0.2.1 q0.2.2).length:Int)>1)) (decide (a.length=q0.fst.length)&&(decide (b.length=q0.2.1.length)&&(decide (c.length=q0.2.2.length)&&(decide (q0.2.2.length≤8)&&(decide (q0.2.1.length=q0.2.2.length)&&(rp3 (!bif !bU k q0.fst q0.2.1 q0.2.2 then true else decide ((↑(bO q0.2.1 q0.2.2).length:Int)>1)) ((!bif bif !bU k q0.fst q0.2.1 q0.2.2 then true else decide ((↑(bO q0.2.1 q0.2.2).length:Int)>1)then true else decide (iH q0.2.1 q0.2.2≥vs))&&(bet kd 1 2&&(fok (ifI q1 (d.getD 0 0))&&(fok (ifI q1 (d.getD 1 0))&&(fok (ifI q1 (d.getD 2 0))&&((fok (ifI q1 (d.getD 3 0)))&&true)))))))))))))))))))))))))))))))),[I22 k a b c on kd d vs q2 0=I22 k a b c on kd d vs q2 0]⟩) (by kernel_rfl)
def jT (a b:List Int) (c:List Bool) (vs:Int) (ev:List Int) (i:Nat):Bool:=bif b.getD i 0==vs then c.getD i false&& !(a.getD i 0 !=ev.getD i 0)else true
theorem l22 (k:Int) (a b:List Int) (c:List Bool) (on:Bool) (kd:Int) (d:List Int) (vs:Int) (ev:List Int) (ha:a.length=8) (hb:b.length=8) (hc:c.length=8) (he:ev.length=8):
  aP none Tryz.prog 0 (.block 0 (.loop (aC 0 (aB f22)))) (I22 k a b c on kd d vs ev 0) fun e t=>e=(bif cL (jT a b c vs ev) 8 0 then .normal else .ret)∧t=bif cL (jT a b c vs ev) 8 0 then X22 else Y22:=by
 refine aP.all (ro:=none) hT t43 bE 8 (jT a b c vs ev) (fun i=>I22 k a b c on kd d vs ev i) X22 Y22 .ret (.inr rfl) (aE f22 0) (aG f22 0) (fun _=>[]) (fun _ _=>aL.nil) (fun i hi h=> ?_) (fun i hi h=> ?_)
  ⟨_,_,⟨_,_,a2B k a b c on kd d vs ev (8:Nat),by rw[hb];rfl,by simp⟩⟩
 ·unfold jT at h
  cases h1:b.getD i 0==vs with
  |true=>
   rw[h1,cond_true,Bool.and_eq_true,Bool.not_eq_true']at h
   obtain⟨h2,h3⟩:=h
   have e:=a29 k a b c on kd d vs ev i
   rw[aF (by omega) (by omega),Int.toNat_natCast]at e
   refine⟨_,_,⟨_,_,e, ?_,by simp⟩⟩
   simp only[h1,h2,h3,bS,rpS]
   omega
  |false=>
   have e:=a2A k a b c on kd d vs ev i
   rw[aF (by omega) (by omega),Int.toNat_natCast]at e
   refine⟨_,_,⟨_,_,e, ?_,by simp⟩⟩
   simp only[h1,bS,rpS]
   omega
 ·unfold jT at h
  rw[if_neg (by intro h;cases h)]
  cases h1:b.getD i 0==vs with
  |false=>rw[h1]at h;cases h
  |true=>
   rw[h1,cond_true]at h
   cases h2:c.getD i false with
   |false=>
    have e:=a27 k a b c on kd d vs ev i
    rw[Int.toNat_natCast]at e
    refine⟨_,_,⟨_,_,e, ?_,by simp⟩⟩
    simp only[h1,h2,bS,rpS]
    omega
   |true=>
    rw[h2,Bool.true_and,Bool.not_eq_false']at h
    have e:=a28 k a b c on kd d vs ev i
    rw[Int.toNat_natCast]at e
    refine⟨_,_,⟨_,_,e, ?_,by simp⟩⟩
    simp only[h1,h2,h,bS,rpS]
    omega
theorem oQ {v:List Int} {n:Int} (h:bG v n=true) (i:Nat):fok (v.getD i 0)=true:=by
 simp only[bG,Bool.and_eq_true,rpS]at h
 exact aU h.1 i
def rsA (a b:List Int) (c:List Bool) (vs:Int):List Int:=(bV a b c vs).1
def rsB (a b:List Int) (c:List Bool) (vs:Int):List Int:=(bV a b c vs).2.1
def rsC (a b:List Int) (c:List Bool) (vs:Int):List Bool:=(bV a b c vs).2.2
def oY (k:Int) (a b:List Int) (c:List Bool) (kd:Int) (d:List Int) (vs:Int):Bool:=srS k a b c&&((kd==0)&&(((d.length:Int)==0)&&((vs==0)&&(((bO b c).length:Int)==1))))
def tX (k:Int) (a b:List Int) (c:List Bool) (kd:Int) (d:List Int) (vs:Int):Bool:=
 bG d 4&&(bet kd 1 2&&(bet vs 1 99&&(d5 a b c&&(bU k (rsA a b c vs) (rsB a b c vs) (rsC a b c vs)&&(!decide (((bO (rsB a b c vs) (rsC a b c vs)).length:Int)>1)&&
  (!decide (iH (rsB a b c vs) (rsC a b c vs)≥vs)&&cL (jT a b c vs (lC kd d)) 8 0))))))
def bT (k:Int) (a b:List Int) (c:List Bool) (on:Bool) (kd:Int) (d:List Int) (vs:Int):Bool:=bif on then tX k a b c kd d vs else oY k a b c kd d vs
theorem N2 (a b:List Int) (c:List Bool) (vs:Int):(rsA a b c vs).length=a.length∧(rsB a b c vs).length=b.length∧(rsC a b c vs).length=c.length:=
 aY (step:=qR vs) (fun _ s=>s.1.length=a.length∧s.2.1.length=b.length∧s.2.2.length=c.length) b.length (a,b,c) ⟨rfl,rfl,rfl⟩ fun i s _ h=>by
  unfold qR
  cases s.2.1.getD i 0==vs
  ·exact h
  ·simp[h.1,h.2.1,h.2.2]
def K2:aO:=fun args h=>
 match args,h with
 |[.agg [.int .i64 k,.view _ (.ints .i64 a) n1 1 _,.view _ (.ints .i64 b) n2 1 _,.view _ (.bools c) n3 1 _,.bool on,.int .i64 kd,.view _ (.ints .i64 d) n4 1 _,.int .i64 vs]],[]=>
  some (.c (.bool (bT k a b c on kd d vs)),[],[decide (d.length≤274877906944)])
 |_,_=>none
theorem m22:aT Tryz.prog 129 K2:=by
 intro args h res h' o hnorm he ho
 unfold K2 at he
 split at he
 case h_2=>cases he
 rename_i k nl1 a n1 cap1 nl2 b n2 cap2 nl3 c n3 cap3 on kd nl4 d n4 cap4 vs
 simp only[Option.some.injEq,Prod.mk.injEq]at he
 obtain⟨rfl,rfl,rfl⟩:=he
 simp only[List.mem_cons,List.not_mem_nil,or_false,forall_eq_or_imp,forall_eq,decide_eq_true_eq]at ho
 have o1:=ho
 simp only[b8,AV.norm,bA,aI.norm,Con.size,List.cons.injEq,AV.c.injEq,AV.agg.injEq,aI.view.injEq,aN,true_and,and_true]at hnorm
 obtain⟨⟨rfl,rfl,rfl⟩,⟨rfl,rfl,rfl⟩,⟨rfl,rfl,rfl⟩,rfl,rfl,rfl⟩:=hnorm
 have st: ∀(x:Bool) (p:gJ) (ob:Bool),(∀lcv,aJ tt (aH T43) lcv 100 f22 [.agg [.int .i64 k,.view none (.ints .i64 a) a.length 1 none,.view none (.ints .i64 b) b.length 1 none,.view none (.bools c) c.length 1 none,.bool on,.int .i64 kd,.view none (.ints .i64 d) d.length 1 none,.int .i64 vs]] [] p=some ⟨.c (.bool x),[],ob,[]⟩)→ob=true→bF Tryz.prog 129 [.agg [.int .i64 k,.view none (.ints .i64 a) a.length 1 none,.view none (.ints .i64 b) b.length 1 none,.view none (.bools c) c.length 1 none,.bool on,.int .i64 kd,.view none (.ints .i64 d) d.length 1 none,.int .i64 vs]] [] (.c (.bool x)) []:=
  fun x p ob h1 h2=>mo t43 (h1 []) h2
 cases on with
 |false=>
  show bF _ _ _ _ (.c (.bool (oY k a b c kd d vs))) _
  unfold oY
  cases h1:srS k a b c with
  |false=>exact st _ _ _ (YP k a b c false kd d vs) (by simp only[h1];rfl)
  |true=>
   obtain⟨q1,q2,q3,q4,q5⟩:=fA (k:=k) (a:=a) (b:=b) (c:=c) (by
    unfold srS at h1
    cases h:bU k a b c with
    |true=>rfl
    |false=>rw[h]at h1;cases h1)
   cases h2:kd==0 with
   |false=>exact st _ _ _ (YO k a b c false kd d vs) (by simp only[h1,h2];rfl)
   |true=>
    cases h3:(d.length:Int)==0 with
    |false=>exact st _ _ _ (YN k a b c false kd d vs) (by simp only[h1,h2,h3];rfl)
    |true=>
     cases h4:vs==0 with
     |false=>exact st _ _ _ (YM k a b c false kd d vs) (by simp only[h1,h2,h3,h4];rfl)
     |true=>
      have e:=YL k a b c false kd d vs
      simp only[h1,h2,h3,h4,cond_true]at e
      exact st _ _ _ e (by simp only[q2,q3,q4,bS,rpS];omega)
 |true=>
  show bF _ _ _ _ (.c (.bool (tX k a b c kd d vs))) _
  unfold tX
  obtain⟨z1,z2,z3⟩:=N2 a b c vs
  dsimp only[rsA,rsB,rsC]at z1 z2 z3
  cases h1:bG d 4 with
  |false=>exact st _ _ _ (YQ k a b c true kd d vs) (by simp only[h1,bS,rpS];exact o1)
  |true=>
   cases h2:bet kd 1 2 with
   |false=>exact st _ _ _ (YR k a b c true kd d vs) (by simp only[h1,h2,bS,rpS];exact o1)
   |true=>
    cases h3:bet vs 1 99 with
    |false=>exact st _ _ _ (YS k a b c true kd d vs) (by simp only[h1,h2,h3,bS,rpS];exact o1)
    |true=>
     cases h4:d5 a b c with
     |false=>exact st _ _ _ (YT k a b c true kd d vs) (by simp only[h1,h2,h3,h4,bS,rpS];exact o1)
     |true=>
      obtain⟨ha,hb,hc⟩:=f9.1 h4
      cases h5:bU k (rsA a b c vs) (rsB a b c vs) (rsC a b c vs)with
      |false=>exact st _ _ _ (RV k a b c true kd d vs) (by
        have h5:bU k (bV a b c vs).1 (bV a b c vs).2.1 (bV a b c vs).2.2=false:=h5
        simp only[h1,h2,h3,h4,h5,bS,rpS];omega)
      |true=>
       cases h6:decide (((bO (rsB a b c vs) (rsC a b c vs)).length:Int)>1)with
       |true=>exact st _ _ _ (RW k a b c true kd d vs) (by
         have h5:bU k (bV a b c vs).1 (bV a b c vs).2.1 (bV a b c vs).2.2=true:=h5
         have h6:decide (((bO (bV a b c vs).2.1 (bV a b c vs).2.2).length:Int)>1)=true:=h6
         simp only[h1,h2,h3,h4,h5,h6,bS,rpS];omega)
       |false=>
        cases h7:decide (iH (rsB a b c vs) (rsC a b c vs)≥vs)with
        |true=>exact st _ _ _ (RX k a b c true kd d vs) (by
         have h5:bU k (bV a b c vs).1 (bV a b c vs).2.1 (bV a b c vs).2.2=true:=h5
         have h6:decide (((bO (bV a b c vs).2.1 (bV a b c vs).2.2).length:Int)>1)=false:=h6
         have h7:decide (iH (bV a b c vs).2.1 (bV a b c vs).2.2≥vs)=true:=h7
         simp only[h1,h2,h3,h4,h5,h6,h7,bS,rpS];omega)
        |false=>
         have g:=l22 k a b c true kd d vs (lC kd d) ha hb hc rfl
         have hf:=oQ h1
         cases h8:cL (jT a b c vs (lC kd d)) 8 0 with
         |true=>
          rw[h8]at g
          exact mo t43 (RY k a b c true kd d vs) (by
           have h5:bU k (bV a b c vs).1 (bV a b c vs).2.1 (bV a b c vs).2.2=true:=h5
           have h6:decide (((bO (bV a b c vs).2.1 (bV a b c vs).2.2).length:Int)>1)=false:=h6
           have h7:decide (iH (bV a b c vs).2.1 (bV a b c vs).2.2≥vs)=false:=h7
           simp only[h1,h2,h3,h4,h5,h6,h7,ifI,hf,bS,rpS];omega) (hlc:=(fun cc hcc=>aL.cons (c:=cc) (by cases hcc;kernel_rfl) (by cases hcc;exact g) aL.nil))
         |false=>
          rw[h8]at g
          exact mo t43 (RZ k a b c true kd d vs) (by
           have h5:bU k (bV a b c vs).1 (bV a b c vs).2.1 (bV a b c vs).2.2=true:=h5
           have h6:decide (((bO (bV a b c vs).2.1 (bV a b c vs).2.2).length:Int)>1)=false:=h6
           have h7:decide (iH (bV a b c vs).2.1 (bV a b c vs).2.2≥vs)=false:=h7
           simp only[h1,h2,h3,h4,h5,h6,h7,ifI,hf,bS,rpS];omega) (hlc:=(fun cc hcc=>aL.cons (c:=cc) (by cases hcc;kernel_rfl) (by cases hcc;exact g) aL.nil))
end
section
noncomputable def T44:List aZ:=[⟨129,[],nm K2⟩]++T43
theorem e44:aA Tryz.prog T44:=by
 refine aA.append ?_ e43
 intro e he
 simp only[List.mem_cons,List.not_mem_nil,or_false]at he
 subst he;exact m22.ok
theorem t44:bL Tryz.prog (aH T44):=aQ e44
def PK.cells (x:PK):List aI:=[.int .i64 x.k,.sl 0 0 x.a.length 1 none,.sl 1 0 x.b.length 1 none,.sl 2 0 x.c.length 1 none,.bool x.on,.int .i64 x.kd,.sl 3 0 x.d.length 1 none,.int .i64 x.vs]
def PK.heap (x:PK):List aV:=[.live (.ints .i64 x.a),.live (.ints .i64 x.b),.live (.bools x.c),.live (.ints .i64 x.d)]
def PK.ok (x:PK):Bool:=bT x.k x.a x.b x.c x.on x.kd x.d x.vs
theorem xJ {P:Program} {f:FuncId} {args:List AV} {h:List aV} (hm:bF P f args [] (.agg [.int .i64 0,.nils,.nils,.nils,.bool false,.int .i64 0,.nils,.int .i64 0]) []):bF P f args [] (.agg PK0.cells) PK0.heap:=
 (((hm.nil1 (es:=1) (c0:=.ints .i64 []) rfl rfl).nil1 (es:=1) (c0:=.ints .i64 []) rfl rfl).nil1 (es:=1) (c0:=.bools []) rfl rfl).nil1 (es:=1) (c0:=.ints .i64 []) rfl rfl
theorem iW {P:Program} {f:FuncId} {args:List AV} {b:Bool} (hm:bF P f args [] (.tup [.agg [.int .i64 0,.nils,.nils,.nils,.bool false,.int .i64 0,.nils,.int .i64 0],.c (.bool b)]) []):bF P f args [] (.tup [.agg PK0.cells,.c (.bool b)]) PK0.heap:=
 (((hm.nil1 (es:=1) (c0:=.ints .i64 []) rfl rfl).nil1 (es:=1) (c0:=.ints .i64 []) rfl rfl).nil1 (es:=1) (c0:=.bools []) rfl rfl).nil1 (es:=1) (c0:=.ints .i64 []) rfl rfl
theorem dV {k:Int} {a b:List Int} {c:List Bool} {on:Bool} {kd:Int} {d:List Int} {vs:Int} (h:bT k a b c on kd d vs=true):a.length=8∧b.length=8∧c.length=8:=by
 unfold bT at h
 cases on with
 |true=>
  simp only[cond_true,tX,Bool.and_eq_true,rpS]at h
  exact f9.1 h.2.2.2.1
 |false=>
  simp only[cond_false,oY,Bool.and_eq_true,rpS]at h
  have h1:=h.1
  unfold srS at h1
  cases hs:bU k a b c with
  |true=>exact⟨(fA hs).2.1,(fA hs).2.2.1,(fA hs).2.2.2.1⟩
  |false=>rw[hs]at h1;cases h1
theorem GC {k:Int} {a b:List Int} {c:List Bool} {on:Bool} {kd:Int} {d:List Int} {vs:Int} (h:bT k a b c on kd d vs=true) (ho:on=false):bU k a b c=true∧d=[]∧kd=0∧vs=0:=by
 subst ho
 simp only[bT,cond_false,oY,Bool.and_eq_true,rpS,beq_iff_eq]at h
 obtain⟨h1,h2,h3,h4,h5⟩:=h
 unfold srS at h1
 refine⟨?_,List.eq_nil_of_length_eq_zero (by omega),h2,h4⟩
 cases hs:bU k a b c with
 |true=>rfl
 |false=>rw[hs]at h1;cases h1
theorem EM {k:Int} {a b:List Int} {c:List Bool} {on:Bool} {kd:Int} {d:List Int} {vs:Int} (h:bT k a b c on kd d vs=true) (ho:on=true):bG d 4=true∧bet kd 1 2=true∧bet vs 1 99=true:=by
 subst ho
 simp only[bT,cond_true,tX,Bool.and_eq_true,rpS]at h
 exact⟨h.1,h.2.1,h.2.2.1⟩
def krD (k:Int) (a b:List Int) (c:List Bool) (on:Bool) (kd:Int) (d:List Int) (vs:Int):List Int:=bif bT k a b c on kd d vs then(bif on then d else rdD k a b c)else []
def krB (k:Int) (a b:List Int) (c:List Bool) (on:Bool) (kd:Int) (d:List Int) (vs:Int):Bool:=bif bT k a b c on kd d vs then(bif on then true else rdS k a b c)else false
def FG (k:Int) (a b:List Int) (c:List Bool) (on:Bool) (kd:Int) (d:List Int) (vs:Int):=bt2 (aJ tt (aH T44) ([]) 100 Tryz.f118 [.agg [.int .i64 k,.view none (.ints .i64 a) a.length 1 none,.view none (.ints .i64 b) b.length 1 none,.view none (.bools c) c.length 1 none,.bool on,.int .i64 kd,.view none (.ints .i64 d) d.length 1 none,.int .i64 vs]] []) (↑d.length:Int) (P:=fun q0 q1=>q0 [(0,true)]=
  some ⟨.tup [.c .nils,.c (.bool false)],[],(decide (d.length≤274877906944)&&((!bT k a b c on kd d vs)&&true)),[]⟩∧q0 [(0,false),(0,true)]=
  some ⟨.tup [.c (.sl 0 0 q1.toNat 1 none),.c (.bool true)],[.live (.ints .i64 d)],(decide (d.length≤274877906944)&&(!!bT k a b c on kd d vs&&((on)&&(decide (d.length≤274877906944)&&((rp2 (decide (q1≤q1)) true)&&true))))),[]⟩∧q0 [(0,false),(0,false)]=
  some ⟨.tup [.c (.sl 0 0 (rdD k a b c).length 1 none),.c (.bool (rdS k a b c))],[.live (.ints .i64 (rdD k a b c))],(decide (d.length≤274877906944)&&(!!bT k a b c on kd d vs&&((!on)&&(decide (c.length=8)&&(decide (b.length=8)&&(decide (a.length=8)&&(bet k 1 2&&((aD a)&&true)))))))),[]⟩) ⟨by kernel_rfl,by kernel_rfl,by kernel_rfl⟩
def a58 (k:Int) (a b:List Int) (c:List Bool) (on:Bool) (kd:Int) (d:List Int) (vs:Int):=(FG k a b c on kd d vs).1
def a59 (k:Int) (a b:List Int) (c:List Bool) (on:Bool) (kd:Int) (d:List Int) (vs:Int):=(FG k a b c on kd d vs).2.1
def a5A (k:Int) (a b:List Int) (c:List Bool) (on:Bool) (kd:Int) (d:List Int) (vs:Int):=(FG k a b c on kd d vs).2.2
def rH:aO:=fun args h=>
 match args,h with
 |[.agg [.int .i64 k,.view _ (.ints .i64 a) n1 1 _,.view _ (.ints .i64 b) n2 1 _,.view _ (.bools c) n3 1 _,.bool on,.int .i64 kd,.view _ (.ints .i64 d) n4 1 _,.int .i64 vs]],[]=>
  some (.tup [.c (.sl 0 0 (krD k a b c on kd d vs).length 1 none),.c (.bool (krB k a b c on kd d vs))],[.live (.ints .i64 (krD k a b c on kd d vs))],[decide (d.length≤274877906944)])
 |_,_=>none
theorem m20:aT Tryz.prog 118 rH:=by
 intro args h res h' o hnorm he ho
 unfold rH at he
 split at he
 case h_2=>cases he
 rename_i k nl1 a n1 cap1 nl2 b n2 cap2 nl3 c n3 cap3 on kd nl4 d n4 cap4 vs
 simp only[Option.some.injEq,Prod.mk.injEq]at he
 obtain⟨rfl,rfl,rfl⟩:=he
 simp only[List.mem_cons,List.not_mem_nil,or_false,forall_eq_or_imp,forall_eq,decide_eq_true_eq]at ho
 have o1:=ho
 simp only[b8,AV.norm,bA,aI.norm,Con.size,List.cons.injEq,AV.c.injEq,AV.agg.injEq,aI.view.injEq,aN,true_and,and_true]at hnorm
 obtain⟨⟨rfl,rfl,rfl⟩,⟨rfl,rfl,rfl⟩,⟨rfl,rfl,rfl⟩,rfl,rfl,rfl⟩:=hnorm
 unfold krD krB
 cases h:bT k a b c on kd d vs with
 |false=>exact bF.nilTup (h':=[]) (c0:=.ints .i64 []) (mo t44 (a58 k a b c on kd d vs) (by simp only[h,o1];rfl)) rfl
 |true=>
  obtain⟨ha,hb,hc⟩:=dV h
  cases ho:on with
  |true=>subst ho;exact mo t44 (a59 k a b c true kd d vs) (by simp[h,o1])
  |false=>
   obtain⟨hs,-,-,-⟩:=GC h ho
   obtain⟨q1,q2,q3,q4,q5⟩:=fA hs
   subst ho
   exact mo t44 (a5A k a b c false kd d vs) (by simp[h,o1,q1,q2,q3,q4,q5])
def HZ {α:Type} (x:α):List α:=[x,x,x,x,x,x,x,x]
def iR (x:PK):PK:=bif x.ok then(bif x.on then⟨x.kd,lC x.kd x.d,HZ x.vs,HZ true,false,0,[],0⟩else x)else PK0
theorem JA {α:Type} {a:List α} (h:a.length=8) (x0 x1 x2 x3 x4 x5 x6 x7:α):((((((((a.set 0 x0).set 1 x1).set 2 x2).set 3 x3).set 4 x4).set 5 x5).set 6 x6).set 7 x7)=[x0,x1,x2,x3,x4,x5,x6,x7]:=by
 match a,h with
 |[_,_,_,_,_,_,_,_],_=>rfl
def FE (k:Int) (a b:List Int) (c:List Bool) (on:Bool) (kd:Int) (d:List Int) (vs:Int):=a8L ((((a.set 0 (dS kd [ifI (bG d 4) (d.getD 0 0),ifI (bG d 4) (d.getD 1 0),ifI (bG d 4) (d.getD 2 0),ifI (bG d 4) (d.getD 3 0)] 0)).set 1 (dS kd [ifI (bG d 4) (d.getD 0 0),ifI (bG d 4) (d.getD 1 0),ifI (bG d 4) (d.getD 2 0),ifI (bG d 4) (d.getD 3 0)] 1)).set 2 (dS kd [ifI (bG d 4) (d.getD 0 0),ifI (bG d 4) (d.getD 1 0),ifI (bG d 4) (d.getD 2 0),ifI (bG d 4) (d.getD 3 0)] 2)).set 3 (dS kd [ifI (bG d 4) (d.getD 0 0),ifI (bG d 4) (d.getD 1 0),ifI (bG d 4) (d.getD 2 0),ifI (bG d 4) (d.getD 3 0)] 3)) (bG d 4) (aJ tt (aH T44) ([]) 100 Tryz.f137 [.agg [.int .i64 k,.view none (.ints .i64 a) a.length 1 none,.view none (.ints .i64 b) b.length 1 none,.view none (.bools c) c.length 1 none,.bool on,.int .i64 kd,.view none (.ints .i64 d) d.length 1 none,.int .i64 vs]] []) (d.getD 0 0) (d.getD 1 0) (d.getD 2 0) (d.getD 3 0) ((((c.set 0 true).set 1 true).set 2 true).set 3 true) ((((b.set 0 vs).set 1 vs).set 2 vs).set 3 vs) (↑a.length:Int) (↑b.length:Int) (↑c.length:Int) ((c.set 0 true).set 1 true) ((b.set 0 vs).set 1 vs) (P:=fun q0 q1 q2 q3 q4 q5 q6 q7 q8 q9 q10 q11 q12 q13=>q2 [(0,true)]=
  some ⟨.agg [.int .i64 0,.nils,.nils,.nils,.bool false,.int .i64 0,.nils,.int .i64 0],[],(decide (d.length≤274877906944)&&((!bT k a b c on kd d vs)&&true)),[]⟩∧q2 [(0,false),(0,true)]=
  some ⟨.agg [.int .i64 k,.sl 0 0 a.length 1 none,.sl 1 0 b.length 1 none,.sl 2 0 c.length 1 none,.bool on,.int .i64 kd,.sl 3 0 d.length 1 none,.int .i64 vs],[.live (.ints .i64 a),.live (.ints .i64 b),.live (.bools c),.live (.ints .i64 d)],(decide (d.length≤274877906944)&&(!!bT k a b c on kd d vs&&(decide (a.length≤274877906944)&&(decide (b.length≤274877906944)&&(decide (c.length≤274877906944)&&(decide (d.length≤274877906944)&&((!on)&&true))))))),[]⟩∧q2 [(0,false),(0,false)]=
  some ⟨.agg [.int .i64 kd,.sl 0 0 a.length 1 none,.sl 1 0 b.length 1 none,.sl 2 0 c.length 1 none,.bool false,.int .i64 0,.nils,.int .i64 0],[.live (.ints .i64 ((((q0.set 4 (dS kd [ifI q1 q3,ifI q1 q4,ifI q1 q5,ifI q1 q6] 4)).set 5 (dS kd [ifI q1 q3,ifI q1 q4,ifI q1 q5,ifI q1 q6] 5)).set 6 (dS kd [ifI q1 q3,ifI q1 q4,ifI q1 q5,ifI q1 q6] 6)).set 7 (dS kd [ifI q1 q3,ifI q1 q4,ifI q1 q5,ifI q1 q6] 7))),.live (.ints .i64 ((((q8.set 4 vs).set 5 vs).set 6 vs).set 7 vs)),.live (.bools ((((q7.set 4 true).set 5 true).set 6 true).set 7 true))],(decide (d.length≤274877906944)&&(!!bT k a b c on kd d vs&&(decide (a.length≤274877906944)&&(decide (b.length≤274877906944)&&(decide (c.length≤274877906944)&&(decide (d.length≤274877906944)&&((!!on)&&((decide (d.length=d.length)&&(decide (d.length≤274877906944)&&(bet kd 1 2&&(fok (ifI q1 q3)&&(fok (ifI q1 q4)&&(fok (ifI q1 q5)&&(fok (ifI q1 q6)&&(decide (0<q9)&&(decide (0<a.length)&&(decide (0<q10)&&(decide (0<b.length)&&(decide (0<q11)&&(decide (0<c.length)&&true)))))&&true))))))))&&((decide (d.length=d.length)&&(decide (d.length≤274877906944)&&(bet kd 1 2&&(fok (ifI q1 q3)&&(fok (ifI q1 q4)&&(fok (ifI q1 q5)&&(fok (ifI q1 q6)&&(decide (1<q9)&&(decide (1<(a.set 0 (dS kd [ifI q1 q3,ifI q1 q4,ifI q1 q5,ifI q1 q6] 0)).length)&&(decide (1<q10)&&(decide (1<(b.set 0 vs).length)&&(decide (1<q11)&&(decide (1<(c.set 0 true).length)&&true)))))&&true))))))))&&((decide (d.length=d.length)&&(decide (d.length≤274877906944)&&(bet kd 1 2&&(fok (ifI q1 q3)&&(fok (ifI q1 q4)&&(fok (ifI q1 q5)&&(fok (ifI q1 q6)&&(decide (2<q9)&&(decide (2<((a.set 0 (dS kd [ifI q1 q3,ifI q1 q4,ifI q1 q5,ifI q1 q6] 0)).set 1 (dS kd [ifI q1 q3,ifI q1 q4,ifI q1 q5,ifI q1 q6] 1)).length)&&(decide (2<q10)&&(decide (2<q13.length)&&(decide (2<q11)&&(decide (2<q12.length)&&true)))))&&true))))))))&&((decide (d.length=d.length)&&(decide (d.length≤274877906944)&&(bet kd 1 2&&(fok (ifI q1 q3)&&(fok (ifI q1 q4)&&(fok (ifI q1 q5)&&(fok (ifI q1 q6)&&(decide (3<q9)&&(decide (3<(((a.set 0 (dS kd [ifI q1 q3,ifI q1 q4,ifI q1 q5,ifI q1 q6] 0)).set 1 (dS kd [ifI q1 q3,ifI q1 q4,ifI q1 q5,ifI q1 q6] 1)).set 2 (dS kd [ifI q1 q3,ifI q1 q4,ifI q1 q5,ifI q1 q6] 2)).length)&&(decide (3<q10)&&(decide (3<(q13.set 2 vs).length)&&(decide (3<q11)&&(decide (3<(q12.set 2 true).length)&&true)))))&&true))))))))&&((decide (d.length=d.length)&&(decide (d.length≤274877906944)&&(bet kd 1 2&&(fok (ifI q1 q3)&&(fok (ifI q1 q4)&&(fok (ifI q1 q5)&&(fok (ifI q1 q6)&&(decide (4<q9)&&(decide (4<q0.length)&&(decide (4<q10)&&(decide (4<q8.length)&&(decide (4<q11)&&(decide (4<q7.length)&&true)))))&&true))))))))&&((decide (d.length=d.length)&&(decide (d.length≤274877906944)&&(bet kd 1 2&&(fok (ifI q1 q3)&&(fok (ifI q1 q4)&&(fok (ifI q1 q5)&&(fok (ifI q1 q6)&&(decide (5<q9)&&(decide (5<(q0.set 4 (dS kd [ifI q1 q3,ifI q1 q4,ifI q1 q5,ifI q1 q6] 4)).length)&&(decide (5<q10)&&(decide (5<(q8.set 4 vs).length)&&(decide (5<q11)&&(decide (5<(q7.set 4 true).length)&&true)))))&&true))))))))&&((decide (d.length=d.length)&&(decide (d.length≤274877906944)&&(bet kd 1 2&&(fok (ifI q1 q3)&&(fok (ifI q1 q4)&&(fok (ifI q1 q5)&&(fok (ifI q1 q6)&&(decide (6<q9)&&(decide (6<((q0.set 4 (dS kd [ifI q1 q3,ifI q1 q4,ifI q1 q5,ifI q1 q6] 4)).set 5 (dS kd [ifI q1 q3,ifI q1 q4,ifI q1 q5,ifI q1 q6] 5)).length)&&(decide (6<q10)&&(decide (6<((q8.set 4 vs).set 5 vs).length)&&(decide (6<q11)&&(decide (6<((q7.set 4 true).set 5 true).length)&&true)))))&&true))))))))&&((decide (d.length=d.length)&&(decide (d.length≤274877906944)&&(bet kd 1 2&&(fok (ifI q1 q3)&&(fok (ifI q1 q4)&&(fok (ifI q1 q5)&&(fok (ifI q1 q6)&&(decide (7<q9)&&(decide (7<(((q0.set 4 (dS kd [ifI q1 q3,ifI q1 q4,ifI q1 q5,ifI q1 q6] 4)).set 5 (dS kd [ifI q1 q3,ifI q1 q4,ifI q1 q5,ifI q1 q6] 5)).set 6 (dS kd [ifI q1 q3,ifI q1 q4,ifI q1 q5,ifI q1 q6] 6)).length)&&(decide (7<q10)&&(decide (7<(((q8.set 4 vs).set 5 vs).set 6 vs).length)&&(decide (7<q11)&&(decide (7<(((q7.set 4 true).set 5 true).set 6 true).length)&&true)))))&&true))))))))&&true))))))))))))))),[]⟩) ⟨by kernel_rfl,by kernel_rfl,by kernel_rfl⟩
def a4Y (k:Int) (a b:List Int) (c:List Bool) (on:Bool) (kd:Int) (d:List Int) (vs:Int):=(FE k a b c on kd d vs).1
def a4Z (k:Int) (a b:List Int) (c:List Bool) (on:Bool) (kd:Int) (d:List Int) (vs:Int):=(FE k a b c on kd d vs).2.1
def a50 (k:Int) (a b:List Int) (c:List Bool) (on:Bool) (kd:Int) (d:List Int) (vs:Int):=(FE k a b c on kd d vs).2.2
def D9:aO:=fun args h=>
 match args,h with
 |[.agg [.int .i64 k,.view _ (.ints .i64 a) n1 1 _,.view _ (.ints .i64 b) n2 1 _,.view _ (.bools c) n3 1 _,.bool on,.int .i64 kd,.view _ (.ints .i64 d) n4 1 _,.int .i64 vs]],[]=>
  some (.agg (iR ⟨k,a,b,c,on,kd,d,vs⟩).cells,[.live (.ints .i64 (iR ⟨k,a,b,c,on,kd,d,vs⟩).a),.live (.ints .i64 (iR ⟨k,a,b,c,on,kd,d,vs⟩).b),.live (.bools (iR ⟨k,a,b,c,on,kd,d,vs⟩).c),.live (.ints .i64 (iR ⟨k,a,b,c,on,kd,d,vs⟩).d)],[decide (d.length≤274877906944)])
 |_,_=>none
theorem m16:aT Tryz.prog 137 D9:=by
 intro args h res h' o hnorm he ho
 unfold D9 at he
 split at he
 case h_2=>cases he
 rename_i k nl1 a n1 cap1 nl2 b n2 cap2 nl3 c n3 cap3 on kd nl4 d n4 cap4 vs
 simp only[Option.some.injEq,Prod.mk.injEq]at he
 obtain⟨rfl,rfl,rfl⟩:=he
 simp only[List.mem_cons,List.not_mem_nil,or_false,forall_eq_or_imp,forall_eq,decide_eq_true_eq]at ho
 have o1:=ho
 simp only[b8,AV.norm,bA,aI.norm,Con.size,List.cons.injEq,AV.c.injEq,AV.agg.injEq,aI.view.injEq,aN,true_and,and_true]at hnorm
 obtain⟨⟨rfl,rfl,rfl⟩,⟨rfl,rfl,rfl⟩,⟨rfl,rfl,rfl⟩,rfl,rfl,rfl⟩:=hnorm
 unfold iR PK.ok
 dsimp only
 cases h:bT k a b c on kd d vs with
 |false=>exact xJ (h:=[]) (mo t44 (a4Y k a b c on kd d vs) (by simp only[h,o1];rfl))
 |true=>
  obtain⟨ha,hb,hc⟩:=dV h
  cases ho:on with
  |false=>subst ho;exact mo t44 (a4Z k a b c false kd d vs) (by simp[h,o1,ha,hb,hc])
  |true=>
   obtain⟨h1,h2,h3⟩:=EM h ho
   have hf:=oQ h1
   subst ho
   have e:=a50 k a b c true kd d vs
   rw[JA ha,JA hb,JA hc]at e
   have mm:=mo (f:=137) t44 e (by simp only[h,h1,h2,ifI,hf,List.length_set,ha,hb,hc,bS,rpS];simp;omega)
   have:=mm.nil1 (es:=1) (c0:=.ints .i64 []) rfl rfl
   rw[ha,hb,hc]at this⊢
   exact this
def pN (x:PK) (at_:Int):PK:=bif x.ok&&bet at_ 0 7 then(bif x.on then⟨x.k,x.a.set at_.toNat ((lC x.kd x.d).getD at_.toNat 0),x.b.set at_.toNat x.vs,x.c.set at_.toNat true,x.on,x.kd,x.d,x.vs⟩else x)else PK0
def N7 (x:PK) (at_:Int):Bool:=bif x.ok&&bet at_ 0 7 then x.on else false
def zV (k:Int) (a b:List Int) (c:List Bool) (on:Bool) (kd:Int) (d:List Int) (vs:Int) (x:Int):=bt8 (aJ tt (aH T44) ([]) 100 Tryz.f140 [.agg [.int .i64 k,.view none (.ints .i64 a) a.length 1 none,.view none (.ints .i64 b) b.length 1 none,.view none (.bools c) c.length 1 none,.bool on,.int .i64 kd,.view none (.ints .i64 d) d.length 1 none,.int .i64 vs],.c (.int .i64 x)] []) ([.agg [.int .i64 k,.sl 0 0 a.length 1 none,.sl 1 0 b.length 1 none,.sl 2 0 c.length 1 none,.bool on,.int .i64 kd,.sl 3 0 d.length 1 none,.int .i64 vs],.c (.bool on)]:List AV) (mC kd [ifI (bG d 4) (d.getD 0 0),ifI (bG d 4) (d.getD 1 0),ifI (bG d 4) (d.getD 2 0),ifI (bG d 4) (d.getD 3 0)]) ([.agg [.int .i64 0,.nils,.nils,.nils,.bool false,.int .i64 0,.nils,.int .i64 0],.c (.bool false)]:List AV) (!bif !bT k a b c on kd d vs then true else !bet x 0 7) (!!bT k a b c on kd d vs) (bG d 4) (!bT k a b c on kd d vs) (P:=fun q0 q1 q2 q3 q4 q5 q6 q7=>q0 [(0,true)]=
  some ⟨.tup q3,[],(decide (d.length≤274877906944)&&(rp3 q7 (q7&&true))),[]⟩∧q0 [(0,false),(0,true)]=
  some ⟨.tup q3,[],(decide (d.length≤274877906944)&&(rp3 q5 ((bif !bT k a b c on kd d vs then true else !bet x 0 7)&&true))),[]⟩∧q0 [(0,false),(0,false),(0,true)]=
  some ⟨.tup q1,[.live (.ints .i64 (a.set x.toNat (q2.getD x.toNat 0))),.live (.ints .i64 (b.set x.toNat vs)),.live (.bools (c.set x.toNat true)),.live (.ints .i64 d)],(decide (d.length≤274877906944)&&(rp3 q5 (q4&&(decide (a.length≤274877906944)&&(decide (b.length≤274877906944)&&(decide (c.length≤274877906944)&&(decide (d.length≤274877906944)&&((on)&&((decide (d.length=d.length)&&(decide (d.length≤274877906944)&&(bet kd 1 2&&(fok (ifI q6 (d.getD 0 0))&&(fok (ifI q6 (d.getD 1 0))&&(fok (ifI q6 (d.getD 2 0))&&(fok (ifI q6 (d.getD 3 0))&&(decide (0≤x)&&(decide (x<8)&&(decide (x.toNat<q2.length)&&(decide (0≤x)&&(decide (x<(↑a.length:Int))&&(decide (x.toNat<a.length)&&(decide (0≤x)&&(decide (x<(↑b.length:Int))&&(decide (x.toNat<b.length)&&(decide (0≤x)&&(decide (x<(↑c.length:Int))&&(decide (x.toNat<c.length)&&true))))))))&&true)))))))))))&&true))))))))),[]⟩∧q0 [(0,false),(0,false),(0,false)]=
  some ⟨.tup q1,[.live (.ints .i64 a),.live (.ints .i64 b),.live (.bools c),.live (.ints .i64 d)],(decide (d.length≤274877906944)&&(rp3 q5 (q4&&(decide (a.length≤274877906944)&&(decide (b.length≤274877906944)&&(decide (c.length≤274877906944)&&(decide (d.length≤274877906944)&&((!on)&&true)))))))),[]⟩) ⟨by kernel_rfl,by kernel_rfl,by kernel_rfl,by kernel_rfl⟩
def a5B (k:Int) (a b:List Int) (c:List Bool) (on:Bool) (kd:Int) (d:List Int) (vs:Int) (x:Int):=(zV k a b c on kd d vs x).1
def a5C (k:Int) (a b:List Int) (c:List Bool) (on:Bool) (kd:Int) (d:List Int) (vs:Int) (x:Int):=(zV k a b c on kd d vs x).2.1
def a5D (k:Int) (a b:List Int) (c:List Bool) (on:Bool) (kd:Int) (d:List Int) (vs:Int) (x:Int):=(zV k a b c on kd d vs x).2.2.1
def a5E (k:Int) (a b:List Int) (c:List Bool) (on:Bool) (kd:Int) (d:List Int) (vs:Int) (x:Int):=(zV k a b c on kd d vs x).2.2.2
def xZ:aO:=fun args h=>
 match args,h with
 |[.agg [.int .i64 k,.view _ (.ints .i64 a) n1 1 _,.view _ (.ints .i64 b) n2 1 _,.view _ (.bools c) n3 1 _,.bool on,.int .i64 kd,.view _ (.ints .i64 d) n4 1 _,.int .i64 vs],.c (.int .i64 x)],[]=>
  some (.tup [.agg (pN ⟨k,a,b,c,on,kd,d,vs⟩ x).cells,.c (.bool (N7 ⟨k,a,b,c,on,kd,d,vs⟩ x))],[.live (.ints .i64 (pN ⟨k,a,b,c,on,kd,d,vs⟩ x).a),.live (.ints .i64 (pN ⟨k,a,b,c,on,kd,d,vs⟩ x).b),.live (.bools (pN ⟨k,a,b,c,on,kd,d,vs⟩ x).c),.live (.ints .i64 (pN ⟨k,a,b,c,on,kd,d,vs⟩ x).d)],[decide (d.length≤274877906944)])
 |_,_=>none
theorem m26:aT Tryz.prog 140 xZ:=by
 intro args h res h' o hnorm he ho
 unfold xZ at he
 split at he
 case h_2=>cases he
 rename_i k nl1 a n1 cap1 nl2 b n2 cap2 nl3 c n3 cap3 on kd nl4 d n4 cap4 vs x
 simp only[Option.some.injEq,Prod.mk.injEq]at he
 obtain⟨rfl,rfl,rfl⟩:=he
 simp only[List.mem_cons,List.not_mem_nil,or_false,forall_eq_or_imp,forall_eq,decide_eq_true_eq]at ho
 have o1:=ho
 simp only[b8,AV.norm,bA,aI.norm,Con.size,List.cons.injEq,AV.c.injEq,AV.agg.injEq,aI.view.injEq,aN,true_and,and_true]at hnorm
 obtain⟨⟨rfl,rfl,rfl⟩,⟨rfl,rfl,rfl⟩,⟨rfl,rfl,rfl⟩,rfl,rfl,rfl⟩:=hnorm
 unfold pN N7 PK.ok
 dsimp only
 cases h:bT k a b c on kd d vs with
 |false=>exact iW (mo t44 (a5B k a b c on kd d vs x) (by simp[h,o1]))
 |true=>
  obtain⟨ha,hb,hc⟩:=dV h
  cases hx:bet x 0 7 with
  |false=>exact iW (mo t44 (a5C k a b c on kd d vs x) (by simp[h,hx,o1]))
  |true=>
   have hx':=bQ.1 hx
   cases ho:on with
   |false=>subst ho;exact mo t44 (a5E k a b c false kd d vs x) (by simp[h,hx,o1,ha,hb,hc])
   |true=>
    obtain⟨h1,h2,h3⟩:=EM h ho
    have hf:=oQ h1
    subst ho
    have mm:=mo (f:=140) t44 (a5D k a b c true kd d vs x) (by simp only[h,hx,h1,h2,ifI,hf,List.length_set,ha,hb,hc,mC,List.length_cons,List.length_nil,bS,rpS];omega)
    have e1:(a.set x.toNat ((lC kd d).getD x.toNat 0)).length=a.length:=List.length_set
    have e2:(b.set x.toNat vs).length=b.length:=List.length_set
    have e3:(c.set x.toNat true).length=c.length:=List.length_set
    show bF _ _ _ _ (.tup [.agg [.int .i64 k,.sl 0 0 (a.set x.toNat ((lC kd d).getD x.toNat 0)).length 1 none,.sl 1 0 (b.set x.toNat vs).length 1 none,.sl 2 0 (c.set x.toNat true).length 1 none,.bool true,.int .i64 kd,.sl 3 0 d.length 1 none,.int .i64 vs],.c (.bool true)]) _
    rw[e1,e2,e3]
    exact mm
end
section
def mB (x:PK) (kind:Int) (e:List Int):PK:=
 bif x.ok&&(bet kind 1 2&&bG e 4)then(bif x.on||(iH x.b x.c==99)then x else⟨x.k,x.a,x.b,x.c,true,kind,e,iH x.b x.c+1⟩)else PK0
def E5 (x:PK) (kind:Int) (e:List Int):Bool:=bif x.ok&&(bet kind 1 2&&bG e 4)then !(x.on||(iH x.b x.c==99))else false
def pV (k:Int) (a b:List Int) (c:List Bool) (on:Bool) (kd:Int) (d:List Int) (vs:Int) (x:Int) (e:List Int):=bt9 (aJ tt (aH T44) ([]) 100 Tryz.f188 [.agg [.int .i64 k,.view none (.ints .i64 a) a.length 1 none,.view none (.ints .i64 b) b.length 1 none,.view none (.bools c) c.length 1 none,.bool on,.int .i64 kd,.view none (.ints .i64 d) d.length 1 none,.int .i64 vs],.c (.int .i64 x),.c (.view none (.ints .i64 e) e.length 1 none)] []) (!bif !bT k a b c on kd d vs then true else !bet x 1 2) ([.agg [.int .i64 0,.nils,.nils,.nils,.bool false,.int .i64 0,.nils,.int .i64 0],.c (.bool false)]:List AV) (!bif bif !bT k a b c on kd d vs then true else !bet x 1 2 then true else !bG e 4) ([.agg [.int .i64 k,.sl 0 0 a.length 1 none,.sl 1 0 b.length 1 none,.sl 2 0 c.length 1 none,.bool on,.int .i64 kd,.sl 3 0 d.length 1 none,.int .i64 vs],.c (.bool false)]:List AV) (!!bT k a b c on kd d vs) ([.live (.ints .i64 a),.live (.ints .i64 b),.live (.bools c),.live (.ints .i64 d)]:List aV) (↑e.length:Int) (!bT k a b c on kd d vs) (P:=fun q0 q1 q2 q3 q4 q5 q6 q7 q8=>q0 [(0,true)]=
  some ⟨.tup q2,[],(decide (d.length≤274877906944)&&(rp3 q8 (q8&&true))),[]⟩∧q0 [(0,false),(0,true)]=
  some ⟨.tup q2,[],(decide (d.length≤274877906944)&&(rp3 q5 (rp4 (bif !bT k a b c on kd d vs then true else !bet x 1 2) true))),[]⟩∧q0 [(0,false),(0,false),(0,true)]=
  some ⟨.tup q2,[],(decide (d.length≤274877906944)&&(rp3 q5 (rp2 q1 (decide (e.length≤274877906944)&&(q1&&((bif bif !bT k a b c on kd d vs then true else !bet x 1 2 then true else !bG e 4)&&true)))))),[]⟩∧q0 [(0,false),(0,false),(0,false),(0,true)]=
  some ⟨.tup q4,q6,(decide (d.length≤274877906944)&&(rp3 q5 (rp2 q1 (decide (e.length≤274877906944)&&(q1&&(q3&&(decide (a.length≤274877906944)&&(decide (b.length≤274877906944)&&(decide (c.length≤274877906944)&&(decide (d.length≤274877906944)&&(rp5 (on) true))))))))))),[]⟩∧q0 [(0,false),(0,false),(0,false),(0,false),(0,true)]=
  some ⟨.tup q4,q6,(decide (d.length≤274877906944)&&(rp3 q5 (rp2 q1 (decide (e.length≤274877906944)&&(q1&&(q3&&(decide (a.length≤274877906944)&&(decide (b.length≤274877906944)&&(decide (c.length≤274877906944)&&(decide (d.length≤274877906944)&&(rp3 (!on) (decide (c.length≤8)&&(decide (b.length=c.length)&&((!on)&&((bif on then true else iH b c==99)&&true))))))))))))))),[]⟩∧q0 [(0,false),(0,false),(0,false),(0,false),(0,false)]=
  some ⟨.tup [.agg [.int .i64 k,.sl 0 0 a.length 1 none,.sl 1 0 b.length 1 none,.sl 2 0 c.length 1 none,.bool true,.int .i64 x,.sl 3 0 q7.toNat 1 none,.int .i64 (IntKind.i64.wrap (iH b c+1))],.c (.bool true)],[.live (.ints .i64 a),.live (.ints .i64 b),.live (.bools c),.live (.ints .i64 e)],(decide (d.length≤274877906944)&&(rp3 q5 (rp2 q1 (decide (e.length≤274877906944)&&(q1&&(q3&&(decide (a.length≤274877906944)&&(decide (b.length≤274877906944)&&(decide (c.length≤274877906944)&&(decide (d.length≤274877906944)&&(rp3 (!on) (decide (c.length≤8)&&(decide (b.length=c.length)&&((!on)&&((!bif on then true else iH b c==99)&&(decide (e.length≤274877906944)&&((rp2 (decide (q7≤q7)) true)&&(decide (c.length≤8)&&((decide (b.length=c.length))&&true))))))))))))))))))),[]⟩) ⟨by kernel_rfl,by kernel_rfl,by kernel_rfl,by kernel_rfl,by kernel_rfl,by kernel_rfl⟩
def a5L (k:Int) (a b:List Int) (c:List Bool) (on:Bool) (kd:Int) (d:List Int) (vs:Int) (x:Int) (e:List Int):=(pV k a b c on kd d vs x e).1
def a5M (k:Int) (a b:List Int) (c:List Bool) (on:Bool) (kd:Int) (d:List Int) (vs:Int) (x:Int) (e:List Int):=(pV k a b c on kd d vs x e).2.1
def a5N (k:Int) (a b:List Int) (c:List Bool) (on:Bool) (kd:Int) (d:List Int) (vs:Int) (x:Int) (e:List Int):=(pV k a b c on kd d vs x e).2.2.1
def a5O (k:Int) (a b:List Int) (c:List Bool) (on:Bool) (kd:Int) (d:List Int) (vs:Int) (x:Int) (e:List Int):=(pV k a b c on kd d vs x e).2.2.2.1
def a5P (k:Int) (a b:List Int) (c:List Bool) (on:Bool) (kd:Int) (d:List Int) (vs:Int) (x:Int) (e:List Int):=(pV k a b c on kd d vs x e).2.2.2.2.1
def a5Q (k:Int) (a b:List Int) (c:List Bool) (on:Bool) (kd:Int) (d:List Int) (vs:Int) (x:Int) (e:List Int):=(pV k a b c on kd d vs x e).2.2.2.2.2
theorem gK {p:Int→Bool} (h0:p 0=true) {l:List Int} (h:l.all p=true) (i:Nat):p (l.getD i 0)=true:=by
 rw[List.getD_eq_getElem?_getD]
 cases hi:l[i]? with
 |none=>exact h0
 |some x=>exact List.all_eq_true.1 h _ (List.mem_of_getElem? hi)
theorem rK {p:Int→Bool} {l:List Int} {i:Nat} {x:Int} (h:l.all p=true) (hx:p x=true):(l.set i x).all p=true:=by
 rw[List.all_eq_true]at h⊢
 intro y hy
 rcases List.mem_or_eq_of_mem_set hy with h'|h'
 ·exact h y h'
 ·rw[h'];exact hx
theorem H6 {p:Int→Bool} (h0:p 0=true) {b:List Int} (hb:b.all p=true) (c:List Bool):(bO b c).all p=true:=by
 have h1:(eK b (flg c)).all p=true:=aY (step:=jQ b (flg c)) (fun _ o=>o.all p=true) _ [] rfl fun i o _ h=>by
  simp only[jQ,List.all_append,List.all_cons,List.all_nil,Bool.and_true,rpS,h,gK h0 hb,Bool.and_self]
 have swp_all: ∀(v:List Int) (j:Nat),v.all p=true→(swp v j).all p=true:=fun v j h=>rK (rK h (gK h0 h _)) (gK h0 h _)
 have h2:(cW (eK b (flg c))).all p=true:=aY (step:=fun t v=>kA (t+1) v) (fun _ o=>o.all p=true) _ _ h1 fun i o _ h=>by
  have:=gU (step:=oX (i+1)) (fun _ b=>b.all p=true) (fun c=>c.all p=true) (i+1) 0 o h (fun k b _ _ hb=>by
   unfold oX
   cases decide (b.getD (i+1-k) 0<b.getD (i+1-k-1) 0)
   ·exact⟨fun b' h=>by simp at h,fun c h=>by simp at h;rw[←h];exact hb⟩
   ·exact⟨fun b' h=>by simp at h;rw[←h];exact swp_all _ _ hb,fun c h=>by simp at h⟩)
  show(kA (i+1) o).all p=true
  unfold kA
  revert this
  cases cG (oX (i+1)) (i+1) 0 o<;>exact fun h=>h
 have h3:(jA (cW (eK b (flg c)))).all p=true:=aY (step:=zJ _) (fun _ o=>o.all p=true) _ _ h2 fun i o _ h=>rK (rK h (gK h0 h _)) (gK h0 h _)
 have h4: ∀(v:List Int) (n:Nat),v.all p=true→(eP v n).all p=true:=fun v n hv=>by
  induction n with
  |zero=>rfl
  |succ n ih=>
   simp only[eP]
   cases Nat.beq n 0||v.getD n 0 !=v.getD (n-1) 0
   ·exact ih
   ·simp only[cond_true,List.all_append,List.all_cons,List.all_nil,Bool.and_true,rpS,ih,gK h0 hv,Bool.and_self]
 exact h4 _ _ h3
theorem X1 {a b:List Int} {c:List Bool} (h:cL (nX a b c) 8 0=true) (hb:b.length=8):(b.all fun x=>bet x 0 99)=true:=by
 rw[List.all_eq_true]
 intro x hx
 obtain⟨i,hi⟩:=List.getElem?_of_mem hx
 have hlt:=(List.getElem?_eq_some_iff.1 hi).1
 have:=cF.1 h i (by omega) (by omega)
 unfold nX at this
 have hg:b.getD i 0=x:=by rw[List.getD_eq_getElem?_getD,hi];rfl
 rw[hg]at this
 cases h1:c.getD i false with
 |true=>
  rw[h1,cond_true,Bool.and_eq_true,bQ]at this
  exact bQ.2 ⟨by omega,this.2.2⟩
 |false=>
  rw[h1,cond_false,Bool.and_eq_true,Bool.not_eq_true']at this
  have h2:x=0:=by simpa using this.2
  rw[h2];rfl
theorem JK {a b:List Int} {c:List Bool} (h:cL (nX a b c) 8 0=true) (hb:b.length=8) (hc:c.length=8):bet (iH b c) 0 99=true:=
 gK (p:=fun x=>bet x 0 99) rfl (H6 (p:=fun x=>bet x 0 99) rfl (X1 h hb) c) 0
def JT:aO:=fun args h=>
 match args,h with
 |[.agg [.int .i64 k,.view _ (.ints .i64 a) n1 1 _,.view _ (.ints .i64 b) n2 1 _,.view _ (.bools c) n3 1 _,.bool on,.int .i64 kd,.view _ (.ints .i64 d) n4 1 _,.int .i64 vs],.c (.int .i64 x),.c (.view _ (.ints .i64 e) n5 1 _)],[]=>
  some (.tup [.agg (mB ⟨k,a,b,c,on,kd,d,vs⟩ x e).cells,.c (.bool (E5 ⟨k,a,b,c,on,kd,d,vs⟩ x e))],[.live (.ints .i64 (mB ⟨k,a,b,c,on,kd,d,vs⟩ x e).a),.live (.ints .i64 (mB ⟨k,a,b,c,on,kd,d,vs⟩ x e).b),.live (.bools (mB ⟨k,a,b,c,on,kd,d,vs⟩ x e).c),.live (.ints .i64 (mB ⟨k,a,b,c,on,kd,d,vs⟩ x e).d)],[decide (d.length≤274877906944),decide (e.length≤274877906944)])
 |_,_=>none
theorem m36:aT Tryz.prog 188 JT:=by
 intro args h res h' o hnorm he ho
 unfold JT at he
 split at he
 case h_2=>cases he
 rename_i k nl1 a n1 cap1 nl2 b n2 cap2 nl3 c n3 cap3 on kd nl4 d n4 cap4 vs x nl5 e n5 cap5
 simp only[Option.some.injEq,Prod.mk.injEq]at he
 obtain⟨rfl,rfl,rfl⟩:=he
 simp only[List.mem_cons,List.not_mem_nil,or_false,forall_eq_or_imp,forall_eq,decide_eq_true_eq]at ho
 obtain⟨o1,o2⟩:=ho
 simp only[b8,AV.norm,bA,aI.norm,Con.size,List.cons.injEq,AV.c.injEq,AV.agg.injEq,aI.view.injEq,aN,true_and,and_true]at hnorm
 obtain⟨⟨⟨rfl,rfl,rfl⟩,⟨rfl,rfl,rfl⟩,⟨rfl,rfl,rfl⟩,rfl,rfl,rfl⟩,rfl,rfl,rfl⟩:=hnorm
 unfold mB E5 PK.ok
 dsimp only
 cases h:bT k a b c on kd d vs with
 |false=>exact iW (mo t44 (a5L k a b c on kd d vs x e) (by simp[h,o1]))
 |true=>
  obtain⟨ha,hb,hc⟩:=dV h
  cases hx:bet x 1 2 with
  |false=>exact iW (mo t44 (a5M k a b c on kd d vs x e) (by simp[h,hx,o1]))
  |true=>
   cases he:bG e 4 with
   |false=>exact iW (mo t44 (a5N k a b c on kd d vs x e) (by simp[h,hx,he,o1,o2]))
   |true=>
    cases ho:on with
    |true=>
     subst ho
     exact mo t44 (a5O k a b c true kd d vs x e) (by simp[h,hx,he,o1,o2,ha,hb,hc])
    |false=>
     obtain⟨hs,-,-,-⟩:=GC h ho
     subst ho
     simp only[bU,Bool.and_eq_true,rpS]at hs
     have ht:=bQ.1 (JK hs.2.2.1 hb hc)
     cases hT:iH b c==99 with
     |true=>exact mo t44 (a5P k a b c false kd d vs x e) (by simp[h,hx,he,hT,o1,o2,ha,hb,hc])
     |false=>
      have e6:=a5Q k a b c false kd d vs x e
      rw[aF (by omega) (by omega)]at e6
      exact mo t44 e6 (by simp[h,hx,he,hT,o1,o2,ha,hb,hc])
def wG (x:PK) (at_:Int):PK:=⟨x.k,x.a.set at_.toNat 0,x.b.set at_.toNat 0,x.c.set at_.toNat false,x.on,x.kd,x.d,x.vs⟩
def jL (x:PK) (at_:Int):PK:=bif x.ok&&bet at_ 0 7 then(bif !rdS x.k (wG x at_).a (wG x at_).b (wG x at_).c&& !x.on then x else wG x at_)else PK0
noncomputable def T45:List aZ:=[⟨118,[],nm rH⟩,⟨137,[],nm D9⟩,⟨140,[],nm xZ⟩,⟨188,[],nm JT⟩]++T44
theorem e45:aA Tryz.prog T45:=by
 refine aA.append ?_ e44
 intro e he
 simp only[List.mem_cons,List.not_mem_nil,or_false]at he
 rcases he with rfl|rfl|rfl|rfl
 ·exact m20.ok
 ·exact m16.ok
 ·exact m26.ok
 ·exact m36.ok
theorem t45:bL Tryz.prog (aH T45):=aQ e45
def zX (k:Int) (a b:List Int) (c:List Bool) (on:Bool) (kd:Int) (d:List Int) (vs:Int) (x:Int):=bt7 (mB {k:=k,a:=a,b:=b,c:=c,on:=on,kd:=kd,d:=d,vs:=vs} x (krD k a b c on kd d vs)) (aJ tt (aH T45) ([]) 100 Tryz.f136 [.agg [.int .i64 k,.view none (.ints .i64 a) a.length 1 none,.view none (.ints .i64 b) b.length 1 none,.view none (.bools c) c.length 1 none,.bool on,.int .i64 kd,.view none (.ints .i64 d) d.length 1 none,.int .i64 vs],.c (.int .i64 x)] []) ([.agg [.int .i64 0,.nils,.nils,.nils,.bool false,.int .i64 0,.nils,.int .i64 0],.c (.bool false)]:List AV) (krD k a b c on kd d vs) (!bif !bT k a b c on kd d vs then true else !bet x 1 2) (!!bT k a b c on kd d vs) (!bT k a b c on kd d vs) (P:=fun q0 q1 q2 q3 q4 q5 q6=>q1 [(0,true)]=
  some ⟨.tup q2,[],(decide (d.length≤274877906944)&&(rp3 q6 (q6&&true))),[]⟩∧q1 [(0,false),(0,true)]=
  some ⟨.tup q2,[],(decide (d.length≤274877906944)&&(rp3 q5 ((bif !bT k a b c on kd d vs then true else !bet x 1 2)&&true))),[]⟩∧q1 [(0,false),(0,false),(0,true)]=
  some ⟨.tup [.agg [.int .i64 k,.sl 0 0 a.length 1 none,.sl 1 0 b.length 1 none,.sl 2 0 c.length 1 none,.bool on,.int .i64 kd,.sl 3 0 d.length 1 none,.int .i64 vs],.c (.bool false)],[.live (.ints .i64 a),.live (.ints .i64 b),.live (.bools c),.live (.ints .i64 d)],(decide (d.length≤274877906944)&&(rp3 q5 (q4&&((k==x)&&(decide (a.length≤274877906944)&&(decide (b.length≤274877906944)&&(decide (c.length≤274877906944)&&((decide (d.length≤274877906944))&&true)))))))),[]⟩∧q1 [(0,false),(0,false),(0,false)]=
  some ⟨.tup [.agg [.int .i64 q0.k,.sl 0 0 q0.a.length 1 none,.sl 1 0 q0.b.length 1 none,.sl 2 0 q0.c.length 1 none,.bool q0.on,.int .i64 q0.kd,.sl 3 0 q0.d.length 1 none,.int .i64 q0.vs],.c (.bool (E5 {k:=k,a:=a,b:=b,c:=c,on:=on,kd:=kd,d:=d,vs:=vs} x q3))],[.live (.ints .i64 q0.a),.live (.ints .i64 q0.b),.live (.bools q0.c),.live (.ints .i64 q0.d)],(decide (d.length≤274877906944)&&(rp3 q5 (q4&&((!k==x)&&(decide (d.length≤274877906944)&&(decide (q3.length=q3.length)&&(decide (d.length≤274877906944)&&((decide (q3.length≤274877906944))&&true)))))))),[]⟩) ⟨by kernel_rfl,by kernel_rfl,by kernel_rfl,by kernel_rfl⟩
def a5X (k:Int) (a b:List Int) (c:List Bool) (on:Bool) (kd:Int) (d:List Int) (vs:Int) (x:Int):=(zX k a b c on kd d vs x).1
def a5Y (k:Int) (a b:List Int) (c:List Bool) (on:Bool) (kd:Int) (d:List Int) (vs:Int) (x:Int):=(zX k a b c on kd d vs x).2.1
def a5Z (k:Int) (a b:List Int) (c:List Bool) (on:Bool) (kd:Int) (d:List Int) (vs:Int) (x:Int):=(zX k a b c on kd d vs x).2.2.1
def a60 (k:Int) (a b:List Int) (c:List Bool) (on:Bool) (kd:Int) (d:List Int) (vs:Int) (x:Int):=(zX k a b c on kd d vs x).2.2.2
def tbK (x:PK) (kind:Int):PK:=bif x.ok&&bet kind 1 2 then(bif x.k==kind then x else mB x kind (krD x.k x.a x.b x.c x.on x.kd x.d x.vs))else PK0
def tbB (x:PK) (kind:Int):Bool:=bif x.ok&&bet kind 1 2 then(bif x.k==kind then false else E5 x kind (krD x.k x.a x.b x.c x.on x.kd x.d x.vs))else false
theorem QM (k:Int) (w v:List Int):(rdX k w v).length≤4:=by
 unfold rdX
 cases rdB k w v<;>simp[X2]
theorem QK (k:Int) (a b:List Int) (c:List Bool):(rdD k a b c).length≤4:=by
 unfold rdD
 split
 ·exact QM _ _ _
 ·simp
theorem yR (k:Int) (a b:List Int) (c:List Bool) (on:Bool) (kd:Int) (d:List Int) (vs:Int) (hd:d.length≤274877906944):(krD k a b c on kd d vs).length≤274877906944:=by
 unfold krD
 have:=QK k a b c
 cases bT k a b c on kd d vs
 ·simp
 ·cases on
  ·simp only[cond_true,cond_false];omega
  ·exact hd
def SW:aO:=fun args h=>
 match args,h with
 |[.agg [.int .i64 k,.view _ (.ints .i64 a) n1 1 _,.view _ (.ints .i64 b) n2 1 _,.view _ (.bools c) n3 1 _,.bool on,.int .i64 kd,.view _ (.ints .i64 d) n4 1 _,.int .i64 vs],.c (.int .i64 x)],[]=>
  some (.tup [.agg (tbK ⟨k,a,b,c,on,kd,d,vs⟩ x).cells,.c (.bool (tbB ⟨k,a,b,c,on,kd,d,vs⟩ x))],[.live (.ints .i64 (tbK ⟨k,a,b,c,on,kd,d,vs⟩ x).a),.live (.ints .i64 (tbK ⟨k,a,b,c,on,kd,d,vs⟩ x).b),.live (.bools (tbK ⟨k,a,b,c,on,kd,d,vs⟩ x).c),.live (.ints .i64 (tbK ⟨k,a,b,c,on,kd,d,vs⟩ x).d)],[decide (d.length≤274877906944)])
 |_,_=>none
theorem m42:aT Tryz.prog 136 SW:=by
 intro args h res h' o hnorm he ho
 unfold SW at he
 split at he
 case h_2=>cases he
 rename_i k nl1 a n1 cap1 nl2 b n2 cap2 nl3 c n3 cap3 on kd nl4 d n4 cap4 vs x
 simp only[Option.some.injEq,Prod.mk.injEq]at he
 obtain⟨rfl,rfl,rfl⟩:=he
 simp only[List.mem_cons,List.not_mem_nil,or_false,forall_eq_or_imp,forall_eq,decide_eq_true_eq]at ho
 have o1:=ho
 simp only[b8,AV.norm,bA,aI.norm,Con.size,List.cons.injEq,AV.c.injEq,AV.agg.injEq,aI.view.injEq,aN,true_and,and_true]at hnorm
 obtain⟨⟨rfl,rfl,rfl⟩,⟨rfl,rfl,rfl⟩,⟨rfl,rfl,rfl⟩,rfl,rfl,rfl⟩:=hnorm
 unfold tbK tbB PK.ok
 dsimp only
 cases h:bT k a b c on kd d vs with
 |false=>exact iW (mo t45 (a5X k a b c on kd d vs x) (by simp[h,o1]))
 |true=>
  obtain⟨ha,hb,hc⟩:=dV h
  cases hx:bet x 1 2 with
  |false=>exact iW (mo t45 (a5Y k a b c on kd d vs x) (by simp[h,hx,o1]))
  |true=>
   cases hk:k==x with
   |true=>exact mo t45 (a5Z k a b c on kd d vs x) (by simp only[h,hx,hk,o1,ha,hb,hc,bS,rpS];simp)
   |false=>
    have:=yR k a b c on kd d vs o1
    exact mo t45 (a60 k a b c on kd d vs x) (by simp only[h,hx,hk,o1,this,bS,rpS])
end
section
theorem fC.froz (m t id:Nat) {s:St} {len es:Nat} {cap:Option Nat} {c:Con} (h1:s.tmps.getD t (.tup [])=.c (.sl id 0 len es cap)) (h2:Heap.get s.heap id=.live c) (hf:c.free=true) (hz:len*es=c.size):
  fC m s ⟨s.tmps.set t (.c (.view none c len es cap)),s.heap.set id .dead⟩:=fun X w0 ρ0 ρ a w h0 r=>by
 obtain⟨mo,m2⟩:=r.mem.kill (id:=id) (by rw[h2];simp)
 refine⟨upd ρ id .dead,⟨by simpa using r.size,fun u hu=> ?_,m2,r.defers,r.mono.trans mo.toB,r.ids.trans mo.ids⟩⟩
 simp only[List.length_set]at hu
 dsimp only
 by_cases e:u=t
 ·subst e
  have hx:=r.tmps u hu
  rw[h1]at hx
  have:(s.tmps.set u (.c (.view none c len es cap))).getD u (.tup [])=.c (.view none c len es cap):=by
   rw[List.getD_eq_getElem?_getD,List.getElem?_set_self hu];rfl
  rw[this]
  generalize a.tmps.getD u undef=v at hx⊢
  cases hx with
  |c x v hx=>
   refine .c _ _ ?_
   have nl: ∀b,ρ id=.row b→ ¬(b9 (upd ρ id .dead) b∨X b):=by
    rintro b hb (⟨j,hj⟩|hxb)
    ·by_cases ej:j=id
     ·subst ej;rw[aW]at hj;cases hj
     ·rw[bK _ _ ej]at hj;exact ej (r.mem.inj j id b hj hb)
    ·exact r.mem.notX hb hxb
   rcases dQ r.mem h2 hx with⟨b,k,ty,n,hb,rfl,⟨cs,ty',hrow,hsz,hcs⟩,hsh,hn,hl',hcap⟩|⟨ad,rfl,rfl,hcap⟩
   ·rw[Nat.zero_mul]
    refine .view none c len es cap b 0 k (fun q=>cs.getD q undef) (fun _ h=>nl b hb h) (fun q hq=> ?_) (fun q hq=> ?_) hz hl' hcap (fun _ h=>by cases h)
    ·have hq':q<cs.size:=by omega
     simp[World.cell?,hrow,Array.getD,hq']
    ·exact CR0.mono (mo.toB.or X) ((hcs q hq).free (eM hf q)) (cC.noIds _)
   ·exact .viewNone none c es cap ad 0 (by omega) hcap (fun _ h=>by cases h) (fun _=>rfl)
 ·have:(s.tmps.set t (.c (.view none c len es cap))).getD u (.tup [])=s.tmps.getD u (.tup []):=by
   rw[List.getD_eq_getElem?_getD,List.getElem?_set_ne (fun h=>e h.symm),←List.getD_eq_getElem?_getD]
  rw[this]
  exact(r.tmps u hu).mono mo
end
section
theorem CA (v w:List Int):(v8 v w).length=v.length:=p8 _ _ _
theorem fQ (v:List Int) (c:Int):(dX v c).length=v.length:=p8 _ _ _
theorem p7 {f:Nat→Int} (h: ∀i,fok (f i)=true): ∀k i,aD (gP f k i)=true
 |0,_=>rfl
 |k+1,i=>by simp only[gP,aD,List.all_cons,h,Bool.true_and,rpS];exact p7 h k (i+1)
theorem NB (v w:List Int):aD (v8 v w)=true:=p7 (fun i=>cB _) _ _
theorem mQ (v:List Int) (c:Int):aD (dX v c)=true:=p7 (fun i=>cB _) _ _
def DH:aO:=fun args h=>
 match args,h with
 |[.c (.view _ (.ints .i64 v) n 1 _),.c (.view _ (.ints .i64 w) n2 1 _)],[]=>
  some (.c (.view none (.ints .i64 (v8 v w)) v.length 1 none),[],[decide (v.length≤274877906944),decide (v.length≤w.length),aD v,aD w])
 |_,_=>none
theorem a1W:aT Tryz.prog 270 DH:=by
 intro args h res h' o hnorm he ho
 unfold DH at he
 split at he
 case h_2=>cases he
 rename_i nl v n cap nl2 w n2 cap2
 simp only[Option.some.injEq,Prod.mk.injEq]at he
 obtain⟨rfl,rfl,rfl⟩:=he
 simp only[List.mem_cons,List.not_mem_nil,or_false,forall_eq_or_imp,forall_eq,decide_eq_true_eq]at ho
 obtain⟨o1,o2,o3,o4⟩:=ho
 simp only[b8,AV.norm,bA,aI.norm,Con.size,List.cons.injEq,AV.c.injEq,AV.agg.injEq,aI.view.injEq,aN,true_and,and_true]at hnorm
 obtain⟨⟨rfl,rfl,rfl⟩,rfl,rfl,rfl⟩:=hnorm
 exact(a1V t5 [.c (.view none (.ints .i64 v) v.length 1 none),.c (.view none (.ints .i64 w) w.length 1 none)] [] _ _ _ rfl (by simp[o1,o2,o3,o4])).views (o:=[decide (v.length=(v8 v w).length)]) rfl (by simp[CA])
def sB:aO:=fun args h=>
 match args,h with
 |[.c (.view _ (.ints .i64 v) n 1 _),.c (.int .i64 c)],[]=>
  some (.c (.view none (.ints .i64 (dX v c)) v.length 1 none),[],[decide (v.length≤274877906944),aD v,fok c])
 |_,_=>none
theorem a1T:aT Tryz.prog 241 sB:=by
 intro args h res h' o hnorm he ho
 unfold sB at he
 split at he
 case h_2=>cases he
 rename_i nl v n cap c
 simp only[Option.some.injEq,Prod.mk.injEq]at he
 obtain⟨rfl,rfl,rfl⟩:=he
 simp only[List.mem_cons,List.not_mem_nil,or_false,forall_eq_or_imp,forall_eq,decide_eq_true_eq]at ho
 obtain⟨o1,o2,o3⟩:=ho
 simp only[b8,AV.norm,bA,aI.norm,Con.size,List.cons.injEq,AV.c.injEq,AV.agg.injEq,aI.view.injEq,aN,true_and,and_true]at hnorm
 obtain⟨rfl,rfl,rfl⟩:=hnorm
 exact(UR t5 [.c (.view none (.ints .i64 v) v.length 1 none),.c (.int .i64 c)] [] _ _ _ rfl (by simp[o1,o2,o3])).views (o:=[decide (v.length=(dX v c).length)]) rfl (by simp[fQ])
noncomputable def T46:List aZ:=[⟨136,[],nm SW⟩,⟨270,[],nm DH⟩,⟨241,[],nm sB⟩]++T45
theorem e46:aA Tryz.prog T46:=by
 refine aA.append ?_ e45
 intro e he
 simp only[List.mem_cons,List.not_mem_nil,or_false]at he
 rcases he with rfl|rfl|rfl
 ·exact m42.ok
 ·exact a1W.ok
 ·exact a1T.ok
theorem t46:bL Tryz.prog (aH T46):=aQ e46
def Y5 (v w:List Int):=bt1 ((IntKind.i64.wrap (31-(IntKind.i64.wrap (v.getD (bB w).toNat 0*inv (w.getD (bB w).toNat 0))).tmod 31)).tmod 31) (P:=fun q0=>(aJ tt (aH T46) ([]) 100 Tryz.f240 [.c (.view none (.ints .i64 v) v.length 1 none),.c (.view none (.ints .i64 w) w.length 1 none)] []) []=
  some ⟨.c (.view none (.ints .i64 (v8 v (dX w q0))) v.length 1 none),[],(decide (w.length≤274877906944)&&(decide (0≤bB w)&&(decide (bB w<(↑v.length:Int))&&(decide ((bB w).toNat<v.length)&&(decide (0≤bB w)&&(decide (bB w<(↑w.length:Int))&&(decide ((bB w).toNat<w.length)&&(fok (w.getD (bB w).toNat 0)&&(decide (w.length≤274877906944)&&(aD w&&(fok q0&&(decide (v.length≤274877906944)&&(decide (v.length≤(dX w q0).length)&&(aD v&&((aD (dX w q0))&&true))))))))))))))),[]⟩) (by kernel_rfl)
def nlC (v w:List Int):Int:=(31-v.getD (bB w).toNat 0*inv (w.getD (bB w).toNat 0)%31)%31
def nlL (v w:List Int):List Int:=v8 v (dX w (nlC v w))
theorem p5 {v:List Int}: ∀(f i j:Nat),fF v f i=some j→i≤j∧j<i+f
 |0,i,j,h=>by simp[fF]at h
 |f+1,i,j,h=>by
  simp only[fF]at h
  split at h
  ·have:=p5 f (i+1) j h;omega
  ·injection h with h;omega
theorem M9 (w:List Int):bB w<w.length∨w=[]:=by
 by_cases hw:w=[]
 ·exact .inr hw
 ·refine .inl ?_
  have h0:0<w.length:=List.length_pos_iff.2 hw
  unfold bB
  cases h:kB w with
  |none=>dsimp only;omega
  |some j=>
   have:=p5 w.length 0 j h
   dsimp only;omega
theorem PI {v w:List Int} (hv:aD v=true):(IntKind.i64.wrap (31-(IntKind.i64.wrap (v.getD (bB w).toNat 0*inv (w.getD (bB w).toNat 0))).tmod 31)).tmod 31=nlC v w:=by
 have hf:=aU hv (bB w).toNat
 have hi:=rQ (w.getD (bB w).toNat 0)
 obtain⟨m1,m2⟩:=kX hf hi
 rw[oF hf hi,nK m1,cQ (by omega) (by omega),nK (by omega)];rfl
def xU:aO:=fun args h=>
 match args,h with
 |[.c (.view _ (.ints .i64 v) n 1 _),.c (.view _ (.ints .i64 w) n2 1 _)],[]=>
  some (.c (.view none (.ints .i64 (nlL v w)) v.length 1 none),[],[decide (v.length≤274877906944),decide (v.length=w.length),aD v,aD w,decide (0≤bB w)])
 |_,_=>none
theorem aAY:aT Tryz.prog 240 xU:=by
 intro args h res h' o hnorm he ho
 unfold xU at he
 split at he
 case h_2=>cases he
 rename_i nl v n cap nl2 w n2 cap2
 simp only[Option.some.injEq,Prod.mk.injEq]at he
 obtain⟨rfl,rfl,rfl⟩:=he
 simp only[List.mem_cons,List.not_mem_nil,or_false,forall_eq_or_imp,forall_eq,decide_eq_true_eq]at ho
 obtain⟨o1,o2,o3,o4,o5⟩:=ho
 simp only[b8,AV.norm,bA,aI.norm,Con.size,List.cons.injEq,AV.c.injEq,AV.agg.injEq,aI.view.injEq,aN,true_and,and_true]at hnorm
 obtain⟨⟨rfl,rfl,rfl⟩,rfl,rfl,rfl⟩:=hnorm
 have hl:=M9 w
 have hl':bB w<w.length:=by
  rcases hl with h|h
  ·exact h
  ·subst h;simp[bB,kB,fF]at o5
 have e:=Y5 v w
 rw[PI o3]at e
 exact mo t46 e (by
  have hc:fok (nlC v w)=true:=cB _
  simp only[aU o4,hc,o3,o4,mQ,fQ,Bool.true_and,rpS,Bool.and_true,Bool.and_eq_true,decide_eq_true_eq,true_and,and_true]
  omega)
noncomputable def T47:List aZ:=[⟨240,[],nm xU⟩]++T46
theorem e47:aA Tryz.prog T47:=by
 refine aA.append ?_ e46
 intro e he
 simp only[List.mem_cons,List.not_mem_nil,or_false]at he
 subst he;exact aAY.ok
theorem t47:bL Tryz.prog (aH T47):=aQ e47
noncomputable abbrev fK:=Tryz.f238
theorem kY (v w:List Int):(nlL v w).length=v.length:=CA _ _
theorem rS (v w:List Int):aD (nlL v w)=true:=NB _ _
noncomputable def m3 (ti:List (List Int)) (v:List Int) (n:Nat) (i:Int):St:=
 aS fK.ntmps [(0,.c (.view none (.ivs .i64 ti) ti.length 1 none)),(1,.c (.view none (.ints .i64 v) n 1 none)),(5,.c (.int .i64 i))] []
noncomputable def KZ (ti:List (List Int)) (v:List Int) (n:Nat):St:=
 aS fK.ntmps [(0,.c (.view none (.ivs .i64 ti) ti.length 1 none)),(1,.c (.view none (.ints .i64 v) n 1 none))] []
theorem VU (ti:List (List Int)) (v:List Int) (n:Nat) (i:Int):aK 0 (aE fK 0) (aG fK 0) (aM tt (aH T47) ([]) 0 100 (aC 0 (aB fK)) (m3 ti v n i) [(0,true)])=
  some (.normal,(decide (i<(↑ti.length:Int))&&(decide (0≤i)&&(decide (i<(↑ti.length:Int))&&(decide (i.toNat<ti.length)&&(decide (v.length≤274877906944)&&(decide (v.length=(ti.getD i.toNat []).length)&&(aD v&&(aD (ti.getD i.toNat [])&&((decide (0≤bB (ti.getD i.toNat [])))&&true))))))))),[],m3 ti (nlL v (ti.getD i.toNat [])) (v.length) (IntKind.i64.wrap (i+1))):=by kernel_rfl
theorem VV (ti:List (List Int)) (v:List Int) (n:Nat) (i:Int):aK 0 (aE fK 0) (aG fK 0) (aM tt (aH T47) ([]) 0 100 (aC 0 (aB fK)) (m3 ti v n i) [(0,false)])=
  some (.exit 0,((!decide (i<(↑ti.length:Int)))&&true),[],KZ ti (v) (n)):=by kernel_rfl
noncomputable def sK (ti:List (List Int)) (v:List Int) (n:Nat) (ld:Int) (m:Nat) (out:List (List Int)) (put:Bool) (i:Int):St:=
 aS fK.ntmps [(0,.c (.view none (.ivs .i64 ti) ti.length 1 none)),(1,.c (.view none (.ints .i64 v) n 1 none)),(6,.c (.int .i64 ld)),(7,.c (.sl 0 0 m 1 none)),(8,.c (.bool put)),(9,.c (.int .i64 i))] [.live (.ivs .i64 out)]
noncomputable def OI (v:List Int) (n m:Nat) (out:List (List Int)) (put:Bool):St:=
 aS fK.ntmps [(1,.c (.view none (.ints .i64 v) n 1 none)),(7,.c (.sl 0 0 m 1 none)),(8,.c (.bool put))] [.live (.ivs .i64 out)]
def nR (ti:List (List Int)) (v:List Int) (n:Nat) (ld:Int) (m:Nat) (out:List (List Int)) (put:Bool) (i:Int):=bt6 (decide (0≤i)&&(decide (i<(↑ti.length:Int))&&(decide (i.toNat<ti.length)&&(decide ((ti.getD i.toNat []).length≤274877906944)&&(decide ((ti.getD i.toNat []).length=v.length)&&(aD (ti.getD i.toNat [])&&(aD v&&(decide (0≤bB v)&&(decide (m=out.length)&&((decide (m+1≤274877906944))&&true)))))))))) (aM tt (aH T47) ([]) 0 100 (aC 2 (aB fK)) (sK ti v n ld m out put i)) (ti.getD i.toNat []) (aK 0 (aE fK 2) (aG fK 2)) (↑ti.length:Int) (IntKind.i64.wrap (i+1)) (P:=fun q0 q1 q2 q3 q4 q5=>q3 (q1 [(0,true),(0,true),(0,true)])=
  some (.normal,(decide (i<q4)&&(rp3 (!put) (decide (0≤i)&&(decide (i<q4)&&((!put)&&(decide (i.toNat<ti.length)&&((!put)&&(decide (q2.length≤274877906944)&&(rp2 (!put) ((bif !put then decide (bB q2>ld)else false)&&(decide (m=out.length)&&(decide (m+1≤274877906944)&&(decide (0≤i)&&(decide (i<q4)&&(decide (i.toNat<ti.length)&&(decide (q2.length≤274877906944)&&(decide (q2.length=v.length)&&(aD q2&&(aD v&&(decide (0≤bB v)&&(decide (m+1=(out++[v]).length)&&((decide (m+1+1≤274877906944))&&true)))))))))))))))))))))),[],sK ti v n ld (m+1+1) (out++[v]++[nlL q2 v]) (true) q5)∧q3 (q1 [(0,true),(0,true),(0,false)])=
  some (.normal,(decide (i<q4)&&(rp3 (!put) (decide (0≤i)&&(decide (i<q4)&&((!put)&&(decide (i.toNat<ti.length)&&((!put)&&(decide (q2.length≤274877906944)&&(rp2 (!put) ((!bif !put then decide (bB q2>ld)else false)&&q0)))))))))),[],sK ti v n ld (m+1) (out++[nlL q2 v]) (put) q5)∧q3 (q1 [(0,true),(0,false)])=
  some (.normal,(decide (i<q4)&&(rp8 (!!put) q0)),[],sK ti v n ld (m+1) (out++[nlL q2 v]) (put) q5)∧q3 (q1 [(0,false)])=
  some (.exit 2,((!decide (i<q4))&&true),[],OI v n (m) (out) (put))) ⟨by kernel_rfl,by kernel_rfl,by kernel_rfl,by kernel_rfl⟩
def QD (ti:List (List Int)) (v:List Int) (n:Nat) (ld:Int) (m:Nat) (out:List (List Int)) (put:Bool) (i:Int):=(nR ti v n ld m out put i).1
def QE (ti:List (List Int)) (v:List Int) (n:Nat) (ld:Int) (m:Nat) (out:List (List Int)) (put:Bool) (i:Int):=(nR ti v n ld m out put i).2.1
def QF (ti:List (List Int)) (v:List Int) (n:Nat) (ld:Int) (m:Nat) (out:List (List Int)) (put:Bool) (i:Int):=(nR ti v n ld m out put i).2.2.1
def QG (ti:List (List Int)) (v:List Int) (n:Nat) (ld:Int) (m:Nat) (out:List (List Int)) (put:Bool) (i:Int):=(nR ti v n ld m out put i).2.2.2
end
section
def S9 (L:Nat) (r:List Int):Bool:=decide (r.length=L)&&(aD r&&decide (0≤bB r))
def iG (L:Nat) (ti:List (List Int)):Bool:=ti.all (S9 L)
theorem CD {L:Nat} {ti:List (List Int)} (h:iG L ti=true) {i:Nat} (hi:i<ti.length):(ti.getD i []).length=L∧aD (ti.getD i [])=true∧0≤bB (ti.getD i []):=by
 rw[List.getD_eq_getElem?_getD,List.getElem?_eq_getElem hi]
 have:=List.all_eq_true.1 h _ (List.getElem_mem hi)
 simpa only[S9,Bool.and_eq_true,decide_eq_true_eq,Option.getD_some]using this
def HY (ti:List (List Int)) (i:Nat) (v:List Int):List Int:=nlL v (ti.getD i [])
def dM (ti:List (List Int)) (v:List Int):List Int:=bI (HY ti) ti.length 0 v
theorem QL {ti:List (List Int)} {v:List Int} (hv:aD v=true):(dM ti v).length=v.length∧aD (dM ti v)=true:=
 aY (step:=HY ti) (fun _ x=>x.length=v.length∧aD x=true) _ v ⟨rfl,hv⟩ fun i x _ h=>⟨by rw[HY,kY];exact h.1,rS _ _⟩
theorem a96 (ti:List (List Int)) (v:List Int) (L:Nat) (hL:L≤274877906944) (hn:ti.length≤1000) (ht:iG L ti=true) (hv:v.length=L) (hf:aD v=true):
  aP none Tryz.prog 0 (.block 0 (.loop (aC 0 (aB fK)))) (m3 ti v v.length 0) fun e t=>e=.normal∧t=KZ ti (dM ti v) (dM ti v).length:=by
 refine aP.count (ro:=none) hT t47 bE ti.length (fun _ x=>x.length=L∧aD x=true) (fun i x=>m3 ti x x.length i) (fun x=>KZ ti x x.length) (HY ti) (aE fK 0) (aG fK 0)
  (fun _ _=>[]) (fun _ _ _ _=>aL.nil) (fun i x hi h=>⟨⟨by rw[HY,kY];exact h.1,rS _ _⟩, ?_⟩) (fun x h=>⟨_,_,⟨_,_,VV ti x x.length ti.length,by simp,by simp⟩⟩) v ⟨hv,hf⟩
 obtain⟨g1,g2,g3⟩:=CD ht hi
 have e:=VU ti x x.length i
 rw[aF (by omega) (by omega),Int.toNat_natCast]at e
 have hlen:(HY ti i x).length=x.length:=kY _ _
 rw[hlen]
 refine⟨_,_,⟨_,_,e, ?_,by simp⟩⟩
 simp only[h.2,g2,bS,rpS]
 omega
def LA (ti:List (List Int)) (v:List Int) (ld:Int) (i:Nat) (s:List (List Int)×Bool):List (List Int)×Bool:=
 bif !s.2&&decide (bB (ti.getD i [])>ld)then(s.1++[v]++[nlL (ti.getD i []) v],true)else(s.1++[nlL (ti.getD i []) v],s.2)
def lB (ti:List (List Int)) (v:List Int) (ld:Int):List (List Int)×Bool:=bI (LA ti v ld) ti.length 0 ([],false)
theorem a1B (ti:List (List Int)) (v:List Int) (n L:Nat) (ld:Int) (hL:L≤274877906944) (hn:ti.length≤1000) (ht:iG L ti=true) (hv:v.length=L) (hf:aD v=true) (h0:0≤bB v):
  aP none Tryz.prog 0 (.block 2 (.loop (aC 2 (aB fK)))) (sK ti v n ld 0 [] false 0) fun e t=>e=.normal∧t=OI v n (lB ti v ld).1.length (lB ti v ld).1 (lB ti v ld).2:=by
 refine(aP.count (ro:=none) hT t47 bE ti.length (fun i s=>s.1.length≤2*i) (fun i s=>sK ti v n ld s.1.length s.1 s.2 i) (fun s=>OI v n s.1.length s.1 s.2) (LA ti v ld) (aE fK 2) (aG fK 2)
  (fun _ _=>[]) (fun _ _ _ _=>aL.nil) (fun i s hi h=> ?_) (fun s h=>⟨_,_,⟨_,_,QG ti v n ld s.1.length s.1 s.2 ti.length,by simp,by simp⟩⟩)) ([],false) (by simp)
 obtain⟨g1,g2,g3⟩:=CD ht hi
 obtain⟨out,put⟩:=s
 dsimp only at h⊢
 unfold LA
 cases hp:put with
 |true=>
  refine⟨by simp;omega, ?_⟩
  have e:=QF ti v n ld out.length out true i
  rw[aF (by omega) (by omega),Int.toNat_natCast]at e
  simp only[Bool.not_true,Bool.false_and,cond_false,List.length_append,List.length_cons,List.length_nil]
  refine⟨_,_,⟨_,_,e, ?_,by simp⟩⟩
  simp only[hf,g2,h0,bS,rpS]
  omega
 |false=>
  cases hl:decide (bB (ti.getD i [])>ld)with
  |true=>
   refine⟨by simp;omega, ?_⟩
   have e:=QD ti v n ld out.length out false i
   rw[aF (by omega) (by omega),Int.toNat_natCast]at e
   simp only[Bool.not_false,Bool.true_and,rpS,cond_true,List.length_append,List.length_cons,List.length_nil]
   refine⟨_,_,⟨_,_,e, ?_,by simp⟩⟩
   simp only[hl,hf,g2,h0,List.length_append,List.length_cons,List.length_nil,bS,rpS]
   omega
  |false=>
   refine⟨by simp;omega, ?_⟩
   have e:=QE ti v n ld out.length out false i
   rw[aF (by omega) (by omega),Int.toNat_natCast]at e
   simp only[Bool.not_false,Bool.true_and,rpS,cond_false,List.length_append,List.length_cons,List.length_nil]
   refine⟨_,_,⟨_,_,e, ?_,by simp⟩⟩
   simp only[hl,hf,g2,h0,bS,rpS]
   omega
def gD (v:List Int):List Int:=dX v (inv (v.getD (bB v).toNat 0))
def jR (ti:List (List Int)) (v:List Int):List (List Int):=
 bif decide (bB (dM ti v)<0)then ti else
  (bif (lB ti (gD (dM ti v)) (bB (dM ti v))).2 then(lB ti (gD (dM ti v)) (bB (dM ti v))).1 else(lB ti (gD (dM ti v)) (bB (dM ti v))).1++[gD (dM ti v)])
def GY (ti:List (List Int)) (v v':List Int) (out:List (List Int)) (put:Bool):=bt5 (aJ tt (aH T47) ([(0,⟨aE fK 0,m3 ti v v.length 0,.normal,KZ ti v' v'.length⟩),(2,⟨aE fK 2,sK ti (gD v') v'.length (bB v') 0 [] false 0,.normal,OI (gD v') v'.length out.length out put⟩)]) 100 fK [.c (.view none (.ivs .i64 ti) ti.length 1 none),.c (.view none (.ints .i64 v) v.length 1 none)] []) (v'.getD (bB v').toNat 0) (bB v') (gD v') (↑v'.length:Int) (P:=fun q0 q1 q2 q3 q4=>q0 [(0,true)]=
  some ⟨.c (.view none (.ivs .i64 ti) ti.length 1 none),[],(decide (v'.length≤274877906944)&&((decide (bB v'<0))&&true)),[m3 ti v v.length 0=m3 ti v v.length 0]⟩∧q0 [(0,false),(0,true)]=
  some ⟨.c (.sl 0 0 (out.length+1) 1 none),[.live (.ivs .i64 (out++[gD v']))],(decide (v'.length≤274877906944)&&(!decide (bB v'<0)&&(decide (0≤bB v')&&(decide (bB v'<q4)&&(decide (q2.toNat<v'.length)&&(fok q1&&(decide (v'.length≤274877906944)&&(aD v'&&(fok (inv q1)&&((!put)&&(decide (out.length=out.length)&&((decide (out.length+1≤274877906944))&&true)))))))))))),[m3 ti v v.length 0=m3 ti v v.length 0,sK ti q3 v'.length q2 0 [] false 0=sK ti q3 v'.length q2 0 [] false 0]⟩∧q0 [(0,false),(0,false)]=
  some ⟨.c (.sl 0 0 out.length 1 none),[.live (.ivs .i64 out)],(decide (v'.length≤274877906944)&&(!decide (bB v'<0)&&(decide (0≤bB v')&&(decide (bB v'<q4)&&(decide (q2.toNat<v'.length)&&(fok q1&&(decide (v'.length≤274877906944)&&(aD v'&&(fok (inv q1)&&((!!put)&&true)))))))))),[m3 ti v v.length 0=m3 ti v v.length 0,sK ti q3 v'.length q2 0 [] false 0=sK ti q3 v'.length q2 0 [] false 0]⟩) ⟨by kernel_rfl,by kernel_rfl,by kernel_rfl⟩
def Y3 (ti:List (List Int)) (v v':List Int) (out:List (List Int)) (put:Bool):=(GY ti v v' out put).2.1
def Y4 (ti:List (List Int)) (v v':List Int) (out:List (List Int)) (put:Bool):=(GY ti v v' out put).2.2
theorem RQ (ti:List (List Int)) (v v':List Int):aJ tt (aH T47) ([(0,⟨aE fK 0,m3 ti v v.length 0,.normal,KZ ti v' v'.length⟩)]) 100 fK [.c (.view none (.ivs .i64 ti) ti.length 1 none),.c (.view none (.ints .i64 v) v.length 1 none)] [] [(0,true)]=
  some ⟨.c (.view none (.ivs .i64 ti) ti.length 1 none),[],(decide (v'.length≤274877906944)&&((decide (bB v'<0))&&true)),[m3 ti v v.length 0=m3 ti v v.length 0]⟩:=by kernel_rfl
theorem qI {v:List Int}: ∀(f i:Nat),fF v f i=none→ ∀k,i≤k→k<i+f→v.getD k 0=0
 |0,i,h,k,h1,h2=>by omega
 |f+1,i,h,k,h1,h2=>by
  simp only[fF]at h
  split at h
  ·rename_i hz
   by_cases e:k=i
   ·subst e;exact hz
   ·exact qI f (i+1) h k (by omega) (by omega)
  ·cases h
theorem wS {v:List Int}: ∀(f i j:Nat),fF v f i=some j→v.getD j 0≠0
 |0,i,j,h=>by simp[fF]at h
 |f+1,i,j,h=>by
  simp only[fF]at h
  split at h
  ·exact wS f (i+1) j h
  ·rename_i hz
   injection h with h;subst h;exact hz
theorem yT {v:List Int} {i:Nat} (hi:i<v.length) (h:v.getD i 0≠0):0≤bB v:=by
 unfold bB
 cases hl:kB v with
 |some j=>dsimp only;omega
 |none=>exact absurd (qI v.length 0 hl i (by omega) (by omega)) h
theorem BA {v:List Int} (h:0≤bB v):(bB v).toNat<v.length∧v.getD (bB v).toNat 0≠0:=by
 unfold bB at h⊢
 cases hl:kB v with
 |some j=>
  dsimp only
  rw[Int.toNat_natCast]
  have:=p5 v.length 0 j hl
  exact⟨by omega,wS _ _ _ hl⟩
 |none=>rw[hl]at h;simp at h
theorem F4 {v:List Int} {c:Int} {i:Nat} (hi:i<v.length):(dX v c).getD i 0=v.getD i 0*c%31:=by
 have gen: ∀(k j i:Nat),i<k→(gP (pL v c) k j).getD i 0=pL v c (j+i):=by
  intro k
  induction k with
  |zero=>intro j i h;omega
  |succ k ih=>
   intro j i h
   simp only[gP]
   cases i with
   |zero=>simp
   |succ i=>rw[List.getD_cons_succ,ih (j+1) i (by omega)];congr 1;omega
 have:=gen v.length 0 i hi
 rw[Nat.zero_add]at this;exact this
theorem HU {v:List Int} (hf:aD v=true) (h:0≤bB v):0≤bB (gD v):=by
 obtain⟨h1,h2⟩:=BA h
 refine yT (i:=(bB v).toNat) (by unfold gD;rw[fQ];exact h1) ?_
 unfold gD
 rw[F4 h1,nF (aU hf _) h2];decide
theorem L9 (ti:List (List Int)) (v:List Int) (ld:Int):(lB ti v ld).1.length≤2*ti.length:=
 aY (step:=LA ti v ld) (fun i s=>s.1.length≤2*i) ti.length ([],false) (by simp) fun i s _ h=>by
  unfold LA
  cases !s.2&&decide (bB (ti.getD i [])>ld)
  ·simp;omega
  ·simp;omega
def JR:aO:=fun args h=>
 match args,h with
 |[.c (.view _ (.ivs .i64 ti) n 1 _),.c (.view _ (.ints .i64 v) n2 1 _)],[]=>
  some (.c (.view none (.ivs .i64 (jR ti v)) (jR ti v).length 1 none),[],[decide (v.length≤274877906944),decide (ti.length≤1000),iG v.length ti,aD v])
 |_,_=>none
theorem aAW:aT Tryz.prog 238 JR:=by
 intro args h res h' o hnorm he ho
 unfold JR at he
 split at he
 case h_2=>cases he
 rename_i nl ti n cap nl2 v n2 cap2
 simp only[Option.some.injEq,Prod.mk.injEq]at he
 obtain⟨rfl,rfl,rfl⟩:=he
 simp only[List.mem_cons,List.not_mem_nil,or_false,forall_eq_or_imp,forall_eq,decide_eq_true_eq]at ho
 obtain⟨o1,o2,o3,o4⟩:=ho
 simp only[b8,AV.norm,bA,aI.norm,Con.size,List.cons.injEq,AV.c.injEq,AV.agg.injEq,aI.view.injEq,aN,true_and,and_true]at hnorm
 obtain⟨⟨rfl,rfl,rfl⟩,rfl,rfl,rfl⟩:=hnorm
 obtain⟨r1,r2⟩:=QL (ti:=ti) o4
 have g1:=a96 ti v v.length o1 o2 o3 rfl o4
 unfold jR
 cases hl:decide (bB (dM ti v)<0)with
 |true=>
  exact mo (fn:=fK) t47 (RQ ti v (dM ti v)) (by simp only[hl,bS,rpS];omega) (hlc:=(fun cc hcc=>aL.cons (c:=cc) (by cases hcc;kernel_rfl) (by cases hcc;exact g1) aL.nil))
 |false=>
  have h0:0≤bB (dM ti v):=by simpa using hl
  obtain⟨z1,z2⟩:=BA h0
  have g2:=a1B ti (gD (dM ti v)) (dM ti v).length v.length (bB (dM ti v)) o1 o2 o3 (by unfold gD;rw[fQ];exact r1) (mQ _ _) (HU r2 h0)
  have hlen:=L9 ti (gD (dM ti v)) (bB (dM ti v))
  cases hp:(lB ti (gD (dM ti v)) (bB (dM ti v))).2 with
  |true=>
   have e:=Y4 ti v (dM ti v) (lB ti (gD (dM ti v)) (bB (dM ti v))).1 (lB ti (gD (dM ti v)) (bB (dM ti v))).2
   have mm:=mo (f:=238) (fn:=fK) t47 e (by simp only[hl,hp,r2,aU r2,rQ,bS,rpS];omega) (hlc:=(fun cc hcc=>aL.cons (c:=cc) (by cases hcc;kernel_rfl) (by cases hcc;exact g1) (aL.cons (by cases hcc;kernel_rfl) (by cases hcc;exact g2) aL.nil)))
   exact mm.views (o:=[decide ((lB ti (gD (dM ti v)) (bB (dM ti v))).1.length=(lB ti (gD (dM ti v)) (bB (dM ti v))).1.length)]) rfl (by simp)
  |false=>
   have e:=Y3 ti v (dM ti v) (lB ti (gD (dM ti v)) (bB (dM ti v))).1 (lB ti (gD (dM ti v)) (bB (dM ti v))).2
   have mm:=mo (f:=238) (fn:=fK) t47 e (by simp only[hl,hp,r2,aU r2,rQ,bS,rpS];omega) (hlc:=(fun cc hcc=>aL.cons (c:=cc) (by cases hcc;kernel_rfl) (by cases hcc;exact g1) (aL.cons (by cases hcc;kernel_rfl) (by cases hcc;exact g2) aL.nil)))
   have:=mm.views (o:=[decide ((lB ti (gD (dM ti v)) (bB (dM ti v))).1.length+1=((lB ti (gD (dM ti v)) (bB (dM ti v))).1++[gD (dM ti v)]).length)]) rfl (by simp)
   rw[cond_false,cond_false,List.length_append]
   exact this
end
section
noncomputable def T48:List aZ:=[⟨238,[],nm JR⟩]++T47
theorem e48:aA Tryz.prog T48:=by
 refine aA.append ?_ e47
 intro e he
 simp only[List.mem_cons,List.not_mem_nil,or_false]at he
 subst he;exact aAW.ok
theorem t48:bL Tryz.prog (aH T48):=aQ e48
noncomputable abbrev f134:=Tryz.f205
noncomputable def NT (m out:List (List Int)) (n:Nat) (i:Int):St:=
 aS f134.ntmps [(0,.c (.view none (.ivs .i64 m) m.length 1 none)),(3,.c (.view none (.ivs .i64 out) n 1 none)),(4,.c (.int .i64 i))] []
noncomputable def NZ (out:List (List Int)) (n:Nat):St:=aS f134.ntmps [(3,.c (.view none (.ivs .i64 out) n 1 none))] []
def GK (m out:List (List Int)) (n:Nat) (i:Int):=bt4 (aM tt (aH T48) ([]) 0 100 (aC 0 (aB f134)) (NT m out n i)) (m.getD i.toNat []) (aK 0 (aE f134 0) (aG f134 0)) (↑m.length:Int) (P:=fun q0 q1 q2 q3=>q2 (q0 [(0,true)])=
  some (.normal,(decide (i<q3)&&(decide (0≤i)&&(decide (i<q3)&&(decide (i.toNat<m.length)&&(decide (q1.length≤274877906944)&&(decide (out.length≤1000)&&(iG q1.length out&&((aD q1)&&true)))))))),[],NT m (jR out q1) ((jR out q1).length) (IntKind.i64.wrap (i+1)))∧q2 (q0 [(0,false)])=
  some (.exit 0,((!decide (i<q3))&&true),[],NZ (out) (n))) ⟨by kernel_rfl,by kernel_rfl⟩
def VD (m out:List (List Int)) (n:Nat) (i:Int):=(GK m out n i).1
def VE (m out:List (List Int)) (n:Nat) (i:Int):=(GK m out n i).2
def gW (m:List (List Int)) (i:Nat) (out:List (List Int)):List (List Int):=jR out (m.getD i [])
def cP (m:List (List Int)):List (List Int):=bI (gW m) m.length 0 []
def d6 (m:List (List Int)):Nat→Nat→List (List Int)→Bool
 |0,_,_=>true
 |f+1,i,out=>(decide ((m.getD i []).length≤274877906944)&&(decide (out.length≤1000)&&(iG (m.getD i []).length out&&aD (m.getD i []))))&&d6 m f (i+1) (gW m i out)
def eA (m:List (List Int)):Bool:=d6 m m.length 0 []
noncomputable def DT (m:List (List Int)):St:=
 aS f134.ntmps [(0,.c (.view none (.ivs .i64 m) m.length 1 none)),(3,.c (.sl 0 0 0 1 none)),(4,.c (.int .i64 0))] [.live (.ivs .i64 [])]
theorem a90 (m:List (List Int)) (hm:m.length≤274877906944) (ht:eA m=true):
  aP none Tryz.prog 0 (.block 0 (.loop (aC 0 (aB f134)))) (DT m) fun e t=>e=.normal∧t=NZ (cP m) (cP m).length:=by
 have g:=aP.count (ro:=none) hT t48 bE (m:=0) (id:=0) (body:=aC 0 (aB f134)) m.length (fun i out=>d6 m (m.length-i) i out=true) (fun i out=>NT m out out.length i) (fun out=>NZ out out.length) (gW m) (aE f134 0) (aG f134 0)
  (fun _ _=>[]) (fun _ _ _ _=>aL.nil) (fun i out hi h=> ?_) (fun out h=>⟨_,_,⟨_,_,VE m out out.length m.length,by simp,by simp⟩⟩) [] ht
 ·have e:fit 0 (aE f134 0) ⟨(DT m).tmps.set 3 (.c (.view none (.ivs .i64 []) 0 1 none)),(DT m).heap.set 0 .dead⟩=NT m [] 0 0:=by kernel_rfl
  have w:=(fC.froz 0 3 0 (s:=DT m) (len:=0) (es:=1) (cap:=none) (c:=.ivs .i64 []) rfl rfl rfl rfl).trans (fC.fit 0 (aE f134 0) _)
  rw[e]at w
  exact g.pre w
 ·rw[show m.length-i=(m.length-(i+1))+1 from by omega]at h
  simp only[d6,Bool.and_eq_true,rpS,decide_eq_true_eq]at h
  obtain⟨⟨h1,h2,h3,h4⟩,h5⟩:=h
  refine⟨h5, ?_⟩
  have e:=VD m out out.length i
  rw[aF (by omega) (by omega),Int.toNat_natCast]at e
  refine⟨_,_,⟨_,_,e, ?_,by simp⟩⟩
  simp only[h1,h2,h3,h4,decide_true,rpS,bS]
  omega
theorem XV (m:List (List Int)):aJ tt (aH T48) ([(0,⟨aE f134 0,DT m,.normal,NZ (cP m) (cP m).length⟩)]) 100 f134 [.c (.view none (.ivs .i64 m) m.length 1 none)] [] []=
  some ⟨.c (.view none (.ivs .i64 (cP m)) (cP m).length 1 none),[],true,[DT m=DT m]⟩:=by kernel_rfl
def DI:aO:=fun args h=>
 match args,h with
 |[.c (.view _ (.ivs .i64 m) n 1 _)],[]=>
  some (.c (.view none (.ivs .i64 (cP m)) (cP m).length 1 none),[],[decide (m.length≤274877906944),eA m])
 |_,_=>none
theorem aAG:aT Tryz.prog 205 DI:=by
 intro args h res h' o hnorm he ho
 unfold DI at he
 split at he
 case h_2=>cases he
 rename_i nl m n cap
 simp only[Option.some.injEq,Prod.mk.injEq]at he
 obtain⟨rfl,rfl,rfl⟩:=he
 simp only[List.mem_cons,List.not_mem_nil,or_false,forall_eq_or_imp,forall_eq,decide_eq_true_eq]at ho
 obtain⟨o1,o2⟩:=ho
 simp only[b8,AV.norm,bA,aI.norm,Con.size,List.cons.injEq,AV.c.injEq,AV.agg.injEq,aI.view.injEq,aN,true_and,and_true]at hnorm
 obtain⟨rfl,rfl,rfl⟩:=hnorm
 exact mo (fn:=f134) t48 (XV m) (by simp) (hlc:=(fun cc hcc=>aL.cons (c:=cc) (by cases hcc;kernel_rfl) (by cases hcc;exact a90 m o1 o2) aL.nil))
noncomputable def T49:List aZ:=[⟨205,[],nm DI⟩]++T48
theorem e49:aA Tryz.prog T49:=by
 refine aA.append ?_ e48
 intro e he
 simp only[List.mem_cons,List.not_mem_nil,or_false]at he
 subst he;exact aAG.ok
theorem t49:bL Tryz.prog (aH T49):=aQ e49
theorem XS (m:List (List Int)) (v:List Int):aJ tt (aH T49) ([]) 100 Tryz.f203 [.c (.view none (.ivs .i64 m) m.length 1 none),.c (.view none (.ints .i64 v) v.length 1 none)] [] []=
  some ⟨.c (.bool ((↑(jR (cP m) v).length:Int)==(↑(cP m).length:Int))),[],(decide (m.length≤274877906944)&&(eA m&&(decide (v.length≤274877906944)&&(decide ((cP m).length≤1000)&&(iG v.length (cP m)&&((aD v)&&true)))))),[]⟩:=by kernel_rfl
noncomputable abbrev f135:=Tryz.f206
noncomputable def A4 (k:Int) (c:List Bool) (n:Nat) (out:List (List Int)) (i:Int):St:=
 aS f135.ntmps [(0,.c (.int .i64 k)),(1,.c (.view none (.bools c) c.length 1 none)),(5,.c (.sl 0 0 n 1 none)),(6,.c (.int .i64 i))] [.live (.ivs .i64 out)]
noncomputable def O0 (n:Nat) (out:List (List Int)):St:=aS f135.ntmps [(5,.c (.sl 0 0 n 1 none))] [.live (.ivs .i64 out)]
def z7 (k:Int) (c:List Bool) (n:Nat) (out:List (List Int)) (i:Int):=bt4 (aM tt (aH T49) ([]) 0 100 (aC 0 (aB f135)) (A4 k c n out i)) (aK 0 (aE f135 0) (aG f135 0)) (IntKind.i64.wrap (i+1)) (↑c.length:Int) (P:=fun q0 q1 q2 q3=>q1 (q0 [(0,true),(0,true)])=
  some (.normal,(decide (i<8)&&(decide (0≤i)&&(decide (i<q3)&&(decide (i.toNat<c.length)&&((c.getD i.toNat false)&&(bet k 1 2&&(bet i 0 7&&(decide (n=out.length)&&((decide (n+1≤274877906944))&&true))))))))),[],A4 k c (n+1) (out++[bH k i]) q2)∧q1 (q0 [(0,true),(0,false)])=
  some (.normal,(decide (i<8)&&(decide (0≤i)&&(decide (i<q3)&&(decide (i.toNat<c.length)&&((!c.getD i.toNat false)&&true))))),[],A4 k c (n) (out) q2)∧q1 (q0 [(0,false)])=
  some (.exit 0,((!decide (i<8))&&true),[],O0 (n) (out))) ⟨by kernel_rfl,by kernel_rfl,by kernel_rfl⟩
def VF (k:Int) (c:List Bool) (n:Nat) (out:List (List Int)) (i:Int):=(z7 k c n out i).1
def VG (k:Int) (c:List Bool) (n:Nat) (out:List (List Int)) (i:Int):=(z7 k c n out i).2.1
def VH (k:Int) (c:List Bool) (n:Nat) (out:List (List Int)) (i:Int):=(z7 k c n out i).2.2
noncomputable abbrev f62:=Tryz.f114
noncomputable def I62 (k:Int) (v:List Int) (n:Nat) (out:List Int) (i:Int):St:=
 aS f62.ntmps [(0,.c (.int .i64 k)),(1,.c (.view none (.ints .i64 v) v.length 1 none)),(5,.c (.sl 0 0 n 1 none)),(6,.c (.int .i64 i))] [.live (.ints .i64 out)]
noncomputable def X62 (n:Nat) (out:List Int):St:=aS f62.ntmps [(5,.c (.sl 0 0 n 1 none))] [.live (.ints .i64 out)]
theorem a2Y (k:Int) (v:List Int) (n:Nat) (out:List Int) (i:Int):aK 0 (aE f62 0) (aG f62 0) (aM tt (aH T49) ([]) 0 100 (aC 0 (aB f62)) (I62 k v n out i) [(0,true)])=
  some (.normal,(decide (i<8)&&(bet k 1 2&&(bet i 0 7&&(decide ((bH k i).length≤274877906944)&&(decide ((bH k i).length≤v.length)&&(aD (bH k i)&&(aD v&&(decide (n=out.length)&&((decide (n+1≤274877906944))&&true))))))))),[],I62 k v (n+1) (out++[dL (bH k i) v]) (IntKind.i64.wrap (i+1))):=by kernel_rfl
theorem a2Z (k:Int) (v:List Int) (n:Nat) (out:List Int) (i:Int):aK 0 (aE f62 0) (aG f62 0) (aM tt (aH T49) ([]) 0 100 (aC 0 (aB f62)) (I62 k v n out i) [(0,false)])=
  some (.exit 0,((!decide (i<8))&&true),[],X62 (n) (out)):=by kernel_rfl
end
section
def iC (m:List (List Int)) (v:List Int):Bool:=((jR (cP m) v).length:Int)==((cP m).length:Int)
def K0:aO:=fun args h=>
 match args,h with
 |[.c (.view _ (.ivs .i64 m) n 1 _),.c (.view _ (.ints .i64 v) n2 1 _)],[]=>
  some (.c (.bool (iC m v)),[],[decide (m.length≤274877906944),eA m,decide (v.length≤274877906944),decide ((cP m).length≤1000),iG v.length (cP m),aD v])
 |_,_=>none
theorem aAE:aT Tryz.prog 203 K0:=by
 intro args h res h' o hnorm he ho
 unfold K0 at he
 split at he
 case h_2=>cases he
 rename_i nl m n cap nl2 v n2 cap2
 simp only[Option.some.injEq,Prod.mk.injEq]at he
 obtain⟨rfl,rfl,rfl⟩:=he
 simp only[List.mem_cons,List.not_mem_nil,or_false,forall_eq_or_imp,forall_eq,decide_eq_true_eq]at ho
 obtain⟨o1,o2,o3,o4,o5,o6⟩:=ho
 simp only[b8,AV.norm,bA,aI.norm,Con.size,List.cons.injEq,AV.c.injEq,AV.agg.injEq,aI.view.injEq,aN,true_and,and_true]at hnorm
 obtain⟨⟨rfl,rfl,rfl⟩,rfl,rfl,rfl⟩:=hnorm
 exact mo t49 (XS m v) (by simp[o1,o2,o3,o4,o5,o6])
theorem kH {k a:Int} (hk:bet k 1 2=true) (ha:bet a 0 7=true):(bH k a).length=4:=by
 refine MD (q:=fun k a=>(bH k a).length=4) (fun i hi=> ?_) hk ha
 have all:cN (fun k=>decide ((bH ((k/8:Nat)+1:Int) (k%8:Nat)).length=4)) 16=true:=by kernel_rfl
 simpa using aX all i hi
def cdL (k:Int) (v:List Int):List Int:=[dL (bH k 0) v,dL (bH k 1) v,dL (bH k 2) v,dL (bH k 3) v,dL (bH k 4) v,dL (bH k 5) v,dL (bH k 6) v,dL (bH k 7) v]
theorem l62 (k:Int) (v:List Int) (hk:bet k 1 2=true) (hv:v.length=4) (hf:aD v=true):
  aP none Tryz.prog 0 (.block 0 (.loop (aC 0 (aB f62)))) (I62 k v 0 [] 0) fun e t=>e=.normal∧t=X62 8 (cdL k v):=by
 refine(aP.count (ro:=none) hT t49 bE (m:=0) (id:=0) (body:=aC 0 (aB f62)) 8 (fun i o=>o.length=i) (fun i o=>I62 k v o.length o i) (fun o=>X62 o.length o) (fun i o=>o++[dL (bH k (i:Int)) v]) (aE f62 0) (aG f62 0)
  (fun _ _=>[]) (fun _ _ _ _=>aL.nil) (fun i o hi h=>⟨by simp[h], ?_⟩) (fun o h=>⟨_,_,⟨_,_,a2Z k v o.length o (8:Nat),rfl,by simp⟩⟩)) [] rfl
 have e:=a2Y k v o.length o i
 rw[aF (by omega) (by omega)]at e
 have hb:bet (i:Int) 0 7=true:=bQ.2 ⟨by omega,by omega⟩
 have hl:=kH hk hb
 rw[List.length_append]
 refine⟨_,_,⟨_,_,e, ?_,by simp⟩⟩
 simp only[hk,hb,hf,kG hk hb,bS,rpS]
 omega
theorem a6H (k:Int) (v:List Int):aJ tt (aH T49) ([(0,⟨aE f62 0,I62 k v 0 [] 0,.normal,X62 8 (cdL k v)⟩)]) 100 f62 [.c (.int .i64 k),.c (.view none (.ints .i64 v) v.length 1 none)] [] []=
  some ⟨.c (.sl 0 0 8 1 none),[.live (.ints .i64 (cdL k v))],true,[I62 k v 0 [] 0=I62 k v 0 [] 0]⟩:=by kernel_rfl
def JS:aO:=fun args h=>
 match args,h with
 |[.c (.int .i64 k),.c (.view _ (.ints .i64 v) n 1 _)],[]=>
  some (.c (.sl 0 0 8 1 none),[.live (.ints .i64 (cdL k v))],[bet k 1 2,decide (v.length=4),aD v])
 |_,_=>none
theorem m62:aT Tryz.prog 114 JS:=by
 intro args h res h' o hnorm he ho
 unfold JS at he
 split at he
 case h_2=>cases he
 rename_i k nl v n cap
 simp only[Option.some.injEq,Prod.mk.injEq]at he
 obtain⟨rfl,rfl,rfl⟩:=he
 simp only[List.mem_cons,List.not_mem_nil,or_false,forall_eq_or_imp,forall_eq,decide_eq_true_eq]at ho
 obtain⟨o1,o2,o3⟩:=ho
 simp only[b8,AV.norm,bA,aI.norm,Con.size,List.cons.injEq,AV.c.injEq,AV.agg.injEq,aI.view.injEq,aN,true_and,and_true]at hnorm
 obtain⟨rfl,rfl,rfl⟩:=hnorm
 exact mo (fn:=f62) t49 (a6H k v) (by simp) (hlc:=(fun cc hcc=>aL.cons (c:=cc) (by cases hcc;kernel_rfl) (by cases hcc;exact l62 k v o1 o2 o3) aL.nil))
def rwS (k:Int) (c:List Bool) (i:Nat) (o:List (List Int)):List (List Int):=bif c.getD i false then o++[bH k i]else o
def rwL (k:Int) (c:List Bool):List (List Int):=bI (rwS k c) 8 0 []
theorem a91 (k:Int) (c:List Bool) (hk:bet k 1 2=true) (hc:c.length=8):
  aP none Tryz.prog 0 (.block 0 (.loop (aC 0 (aB f135)))) (A4 k c 0 [] 0) fun e t=>e=.normal∧t=O0 (rwL k c).length (rwL k c):=by
 refine(aP.count (ro:=none) hT t49 bE (m:=0) (id:=0) (body:=aC 0 (aB f135)) 8 (fun i o=>o.length≤i) (fun i o=>A4 k c o.length o i) (fun o=>O0 o.length o) (rwS k c) (aE f135 0) (aG f135 0)
  (fun _ _=>[]) (fun _ _ _ _=>aL.nil) (fun i o hi h=> ?_) (fun o h=>⟨_,_,⟨_,_,VH k c o.length o (8:Nat),rfl,by simp⟩⟩)) [] (by simp)
 have hb:bet (i:Int) 0 7=true:=bQ.2 ⟨by omega,by omega⟩
 unfold rwS
 cases hq:c.getD i false with
 |true=>
  refine⟨by simp;omega, ?_⟩
  have e:=VF k c o.length o i
  rw[aF (by omega) (by omega),Int.toNat_natCast]at e
  rw[cond_true,List.length_append]
  refine⟨_,_,⟨_,_,e, ?_,by simp⟩⟩
  simp only[hk,hb,hq,bS,rpS]
  omega
 |false=>
  refine⟨by rw[cond_false];omega, ?_⟩
  have e:=VG k c o.length o i
  rw[aF (by omega) (by omega),Int.toNat_natCast]at e
  rw[cond_false]
  refine⟨_,_,⟨_,_,e, ?_,by simp⟩⟩
  simp only[hq,bS,rpS]
  omega
theorem XW (k:Int) (c:List Bool):aJ tt (aH T49) ([(0,⟨aE f135 0,A4 k c 0 [] 0,.normal,O0 (rwL k c).length (rwL k c)⟩)]) 100 f135 [.c (.int .i64 k),.c (.view none (.bools c) c.length 1 none)] [] []=
  some ⟨.c (.sl 0 0 (rwL k c).length 1 none),[.live (.ivs .i64 (rwL k c))],true,[A4 k c 0 [] 0=A4 k c 0 [] 0]⟩:=by kernel_rfl
def SR:aO:=fun args h=>
 match args,h with
 |[.c (.int .i64 k),.c (.view _ (.bools c) n 1 _)],[]=>
  some (.c (.view none (.ivs .i64 (rwL k c)) (rwL k c).length 1 none),[],[bet k 1 2,decide (c.length=8)])
 |_,_=>none
theorem aAH:aT Tryz.prog 206 SR:=by
 intro args h res h' o hnorm he ho
 unfold SR at he
 split at he
 case h_2=>cases he
 rename_i k nl c n cap
 simp only[Option.some.injEq,Prod.mk.injEq]at he
 obtain⟨rfl,rfl,rfl⟩:=he
 simp only[List.mem_cons,List.not_mem_nil,or_false,forall_eq_or_imp,forall_eq,decide_eq_true_eq]at ho
 obtain⟨o1,o2⟩:=ho
 simp only[b8,AV.norm,bA,aI.norm,Con.size,List.cons.injEq,AV.c.injEq,AV.agg.injEq,aI.view.injEq,aN,true_and,and_true]at hnorm
 obtain⟨rfl,rfl,rfl⟩:=hnorm
 exact(mo (f:=206) (fn:=f135) t49 (XW k c) (by simp) (hlc:=(fun cc hcc=>aL.cons (c:=cc) (by cases hcc;kernel_rfl) (by cases hcc;exact a91 k c o1 o2) aL.nil))).views
  (o:=[decide ((rwL k c).length=(rwL k c).length)]) rfl (by simp)
theorem X8 (k:Int) (a b:List Int) (c:List Bool):aJ tt (aH T49) ([]) 100 Tryz.f156 [.agg [.int .i64 k,.view none (.ints .i64 a) a.length 1 none,.view none (.ints .i64 b) b.length 1 none,.view none (.bools c) c.length 1 none]] [] []=
  some ⟨.agg [.int .i64 k,.sl 0 0 (0+a.length) 1 none,.sl 1 0 (0+b.length) 1 none,.sl 2 0 (0+c.length) 1 none],[.live (.ints .i64 ([]++a)),.live (.ints .i64 ([]++b)),.live (.bools ([]++c))],(decide (0+a.length≤274877906944)&&(decide (0+b.length≤274877906944)&&((decide (0+c.length≤274877906944))&&true))),[]⟩:=by kernel_rfl
def CU:aO:=fun args h=>
 match args,h with
 |[.agg [.int .i64 k,.view _ (.ints .i64 a) n1 1 _,.view _ (.ints .i64 b) n2 1 _,.view _ (.bools c) n3 1 _]],[]=>
  some (.agg [.int .i64 k,.sl 0 0 a.length 1 none,.sl 1 0 b.length 1 none,.sl 2 0 c.length 1 none],[.live (.ints .i64 a),.live (.ints .i64 b),.live (.bools c)],[decide (a.length≤274877906944),decide (b.length≤274877906944),decide (c.length≤274877906944)])
 |_,_=>none
theorem a9S:aT Tryz.prog 156 CU:=by
 intro args h res h' o hnorm he ho
 unfold CU at he
 split at he
 case h_2=>cases he
 rename_i k nl1 a n1 cap1 nl2 b n2 cap2 nl3 c n3 cap3
 simp only[Option.some.injEq,Prod.mk.injEq]at he
 obtain⟨rfl,rfl,rfl⟩:=he
 simp only[List.mem_cons,List.not_mem_nil,or_false,forall_eq_or_imp,forall_eq,decide_eq_true_eq]at ho
 obtain⟨o1,o2,o3⟩:=ho
 simp only[b8,AV.norm,bA,aI.norm,Con.size,List.cons.injEq,AV.c.injEq,AV.agg.injEq,aI.view.injEq,aN,true_and,and_true]at hnorm
 obtain⟨⟨rfl,rfl,rfl⟩,⟨rfl,rfl,rfl⟩,rfl,rfl,rfl⟩:=hnorm
 have e:=X8 k a b c
 simp only[Nat.zero_add]at e
 exact mo t49 e (by simp[o1,o2,o3])
noncomputable def T50:List aZ:=[⟨203,[],nm K0⟩,⟨114,[],nm JS⟩,⟨206,[],nm SR⟩,⟨156,[],nm CU⟩]++T49
theorem e50:aA Tryz.prog T50:=by
 refine aA.append ?_ e49
 intro e he
 simp only[List.mem_cons,List.not_mem_nil,or_false]at he
 rcases he with rfl|rfl|rfl|rfl
 ·exact aAE.ok
 ·exact m62.ok
 ·exact aAH.ok
 ·exact a9S.ok
theorem t50:bL Tryz.prog (aH T50):=aQ e50
def zR (k:Int) (c:List Bool):=bt3 (aJ tt (aH T50) ([]) 100 Tryz.f160 [.c (.int .i64 k),.c (.view none (.bools c) c.length 1 none)] []) (bif bet k 1 2 then(↑c.length:Int)==8 else false) (↑c.length:Int) (P:=fun q0 q1 q2=>q0 [(0,true),(0,true)]=
  some ⟨.c (.bool (bif bif bet k 1 2 then q2==8 else false then(↑(cP (rwL k c)).length:Int)==4 else false)),[],(rp3 (bet k 1 2) (rp3 q1 (bet k 1 2&&(decide (c.length=8)&&(q1&&(decide ((rwL k c).length≤274877906944)&&(eA (rwL k c)&&(rp2 q1 true)))))))),[]⟩∧q0 [(0,true),(0,false)]=
  some ⟨.c (.bool false),[],(rp3 (bet k 1 2) (rp7 (!bif bet k 1 2 then q2==8 else false) true)),[]⟩∧q0 [(0,false)]=
  some ⟨.c (.bool false),[],(rp3 (!bet k 1 2) ((!bet k 1 2)&&true)),[]⟩) ⟨by kernel_rfl,by kernel_rfl,by kernel_rfl⟩
def XB (k:Int) (c:List Bool):=(zR k c).1
def XC (k:Int) (c:List Bool):=(zR k c).2.1
def XD (k:Int) (c:List Bool):=(zR k c).2.2
theorem M8:aR Tryz.prog 157 (dW tt (aH T50) Tryz.f157 []):=cJ hT t50 bE [] (by kernel_rfl) (by kernel_rfl)
end
end Go.Proofs.YtdnfojanjejdgaaGreat.Am
