/- DERIVED. Part 4 of the proof: Am30, C25, C26, C27, Am31, C28, C29, C30, C31, C32, C33, P1. No statement of the program is proved here. -/
import Derived.Test.YtdnfojanjejdgaaGreatX03
set_option linter.unusedSimpArgs false
set_option linter.unusedVariables false
set_option linter.unusedSectionVars false
namespace Go.Proofs.YtdnfojanjejdgaaGreat.Am
section
theorem CR0.nilCases {w:World} {L:Nat→Prop} {ρ:Rho} {c:Con} {len es:Nat} {cap:Option Nat} {v:Value} (h:CR0 w L ρ (.view none c len es cap) v):
  CR0 w L ρ (.view (some false) c len es cap) v∨(c.size=0∧CR0 w L ρ (.view (some true) c len es cap) v):=by
 cases h with
 |view nl c len es cap b base k u hl hc hu hz hk hcap hnl=>exact .inl (.view _ c len es cap b base k u hl hc hu hz hk hcap fun x h=>by injection h with h;exact h.symm)
 |viewNone nl c es cap a k hz hcap hnl hk=>
  cases a with
  |none=>exact .inr ⟨hz,.viewNone _ c es cap none k hz hcap (fun x h=>by injection h with h;exact h.symm) hk⟩
  |some a=>exact .inl (.viewNone _ c es cap (some a) k hz hcap (fun x h=>by injection h with h;exact h.symm) hk)
theorem bE.nilCases {P:Program} {f:FuncId} {c:Con} {len es:Nat} {cap:Option Nat} {h h':List aU} {res:AV} (h1:bE P f [.c (.view (some false) c len es cap)] h res h')
  (h2:c.size=0→bE P f [.c (.view (some true) c len es cap)] h res h'):bE P f [.c (.view none c len es cap)] h res h':=by
 refine⟨h1.1,fun {X w0 ρ0} m vs hl hv=> ?_⟩
 have h0:=hv 0 (by simp)
 simp only[List.getD_cons_zero]at h0
 cases h0 with
 |c x v hx=>
  rcases CR0.nilCases hx with hx|⟨hz,hx⟩
  ·exact h1.2 m vs hl fun q hq=>by
    match q,hq with
    |0,_=>exact .c _ _ hx
  ·exact(h2 hz).2 m vs hl fun q hq=>by
    match q,hq with
    |0,_=>exact .c _ _ hx
theorem Mem.addNil {X:Nat→Prop} {w0 w:World} {M:Nat→Prop} {h:List aU} {ρ:Rho} (m:Mem X w0 M h ρ w) {c0:Con} (hc:c0.size=0):
  ρ h.length=.unborn∧Mem X w0 M (h++[.live c0]) (upd ρ h.length .nil) w:=by
 have hun:ρ h.length=.unborn:=by
  have hs:=m.slot h.length
  rw[Heap.get_ge (Nat.le_refl _)]at hs
  cases hx:ρ h.length<;>rw[hx]at hs<;>first|rfl|exact hs.elim
 have mo:=gK w hun
 refine⟨hun,⟨fun id=> ?_,fun i j b hi hj=> ?_,fun id b hb=> ?_,m.os,m.tape,m.output,m.size,m.keep,m.foreign⟩⟩
 ·by_cases e:id=h.length
  ·subst e
   have:Heap.get (h++[.live c0]) h.length=.live c0:=by
    unfold Heap.get
    rw[List.getD_eq_getElem?_getD,List.getElem?_append_right (by omega)];simp
   rw[this,aW];exact hc
  ·have hg:Heap.get (h++[.live c0]) id=Heap.get h id:=by
    unfold Heap.get
    rw[List.getD_eq_getElem?_getD,List.getD_eq_getElem?_getD,List.getElem?_append]
    split
    ·rfl
    ·rw[List.getElem?_eq_none (l:=h) (by omega),List.getElem?_eq_none (by simp;omega)]
   rw[hg,bI _ _ e]
   exact(m.slot id).mono mo fun _ _=>rfl
 ·by_cases e:i=h.length
  ·subst e;rw[aW]at hi;cases hi
  ·by_cases e':j=h.length
   ·subst e';rw[aW]at hj;cases hj
   ·rw[bI _ _ e]at hi;rw[bI _ _ e']at hj
    exact m.inj i j b hi hj
 ·by_cases e:id=h.length
  ·subst e;rw[aW]at hb;cases hb
  ·rw[bI _ _ e]at hb;exact m.own id b hb
theorem bE.nils {P:Program} {f:FuncId} {args:List AV} {h h':List aU} {es:Nat} {c0:Con} (hm:bE P f args h (.c .nils) h') (hc:c0.size=0):
  bE P f args h (.c (.sl h'.length 0 0 es none)) (h'++[.live c0]):=by
 refine⟨hm.1,fun {X w0 ρ0} m vs hl hv=> ?_⟩
 refine Calls.mono (hm.2 m vs hl hv) ?_
 rintro e w' ⟨v,ρ',rfl,mb,im,m',hr⟩
 obtain⟨hun,m2⟩:=m'.addNil hc
 have mo:=gK w' hun
 refine⟨v,_,rfl,mb.trans mo.toB,im.trans mo.ids,m2, ?_⟩
 cases hr with
 |c x v hx=>exact .c _ _ (iK hx)
end
section
noncomputable def T22:List aZ:=[⟨217,[],nm BK⟩]++T21
theorem e22:a7 Tryz.prog T22:=by
 refine a7.append ?_ e21
 intro e he
 simp only[List.mem_cons,List.not_mem_nil,or_false]at he
 subst he;exact a76.ok
theorem t22:bK Tryz.prog (a9 T22):=aO e22
theorem UM (k:Int) (w v:List Int):aE tt (a9 T22) ([]) 100 Tryz.f183 [.c (.int .i64 k),.c (.view none (.ints .i64 w) w.length 1 none),.c (.view none (.ints .i64 v) v.length 1 none)] [] [(0,true)]=
  some ⟨.tup [.c .nils,.c (.bool false)],[],(decide (v.length≤8)&&(bet k 1 2&&(bC v&&(rp5 (!c7 k v) ((!c7 k v)&&true))))),[]⟩:=by kernel_rfl
theorem UN (k:Int) (w v:List Int):aE tt (a9 T22) ([]) 100 Tryz.f183 [.c (.int .i64 k),.c (.view none (.ints .i64 w) w.length 1 none),.c (.view none (.ints .i64 v) v.length 1 none)] [] [(0,false),(0,true)]=
  some ⟨.tup [.c .nils,.c (.bool false)],[],(decide (v.length≤8)&&(bet k 1 2&&(bC v&&(rp4 (!!c7 k v) (decide (v.length≤8)&&(bet k 1 2&&(bC v&&(decide (w.length=8)&&(aA w&&(dO k w v&&(!!c7 k v&&((bif !c7 k v then true else !cE k w v)&&true)))))))))))),[]⟩:=by kernel_rfl
theorem UO (k:Int) (w v:List Int):aE tt (a9 T22) ([]) 100 Tryz.f183 [.c (.int .i64 k),.c (.view none (.ints .i64 w) w.length 1 none),.c (.view none (.ints .i64 v) v.length 1 none)] [] [(0,false),(0,false)]=
  some ⟨.tup [.c (.sl 0 0 4 1 none),.c (.bool true)],[.live (.ints .i64 [(dL k w v).getD 0 0,(dL k w v).getD 1 0,(dL k w v).getD 2 0,(dL k w v).getD 3 0])],(decide (v.length≤8)&&(bet k 1 2&&(bC v&&(rp4 (!!c7 k v) (decide (v.length≤8)&&(bet k 1 2&&(bC v&&(decide (w.length=8)&&(aA w&&(dO k w v&&(!!c7 k v&&((!bif !c7 k v then true else !cE k w v)&&(decide (v.length≤8)&&(bet k 1 2&&(bC v&&(decide (w.length=8)&&(aA w&&((dO k w v)&&true)))))))))))))))))),[]⟩:=by kernel_rfl
def DQ:aM:=fun args h=>
 match args,h with
 |[.c (.int .i64 k),.c (.view _ (.ints .i64 w) n 1 _),.c (.view _ (.ints .i64 v) n2 1 _)],[]=>
  some (.tup [.c (.sl 0 0 4 1 none),.c (.bool true)],[.live (.ints .i64 [(dL k w v).getD 0 0,(dL k w v).getD 1 0,(dL k w v).getD 2 0,(dL k w v).getD 3 0])],[decide (v.length≤8),bet k 1 2,bC v,decide (w.length=8),aA w,dO k w v,c7 k v,cE k w v])
 |_,_=>none
theorem a6W:aS Tryz.prog 183 DQ:=by
 intro args h res h' o hnorm he ho
 unfold DQ at he
 split at he
 case h_2=>cases he
 rename_i k nl w n cap nl2 v n2 cap2
 simp only[Option.some.injEq,Prod.mk.injEq]at he
 obtain⟨rfl,rfl,rfl⟩:=he
 simp only[List.mem_cons,List.not_mem_nil,or_false,forall_eq_or_imp,forall_eq,decide_eq_true_eq]at ho
 obtain⟨o1,o2,o3,o4,o5,o6,o7,o8⟩:=ho
 simp only[b8,AV.norm,bA,aF.norm,Con.size,List.cons.injEq,AV.c.injEq,AV.agg.injEq,aF.view.injEq,aL,true_and,and_true]at hnorm
 obtain⟨⟨rfl,rfl,rfl⟩,rfl,rfl,rfl⟩:=hnorm
 exact mo t22 (UO k w v) (by simp[o1,o2,o3,o4,o5,o6,o7,o8])
def DP:aM:=fun args h=>
 match args,h with
 |[.c (.int .i64 k),.c (.view _ (.ints .i64 w) n 1 _),.c (.view _ (.ints .i64 v) n2 1 _)],[]=>
  some (.tup [.c .nils,.c (.bool false)],[],[decide (v.length≤8),bet k 1 2,bC v,decide (w.length=8),aA w,dO k w v, !(c7 k v&&cE k w v)])
 |_,_=>none
theorem YL:aS Tryz.prog 183 DP:=by
 intro args h res h' o hnorm he ho
 unfold DP at he
 split at he
 case h_2=>cases he
 rename_i k nl w n cap nl2 v n2 cap2
 simp only[Option.some.injEq,Prod.mk.injEq]at he
 obtain⟨rfl,rfl,rfl⟩:=he
 simp only[List.mem_cons,List.not_mem_nil,or_false,forall_eq_or_imp,forall_eq,decide_eq_true_eq]at ho
 obtain⟨o1,o2,o3,o4,o5,o6,o7⟩:=ho
 simp only[b8,AV.norm,bA,aF.norm,Con.size,List.cons.injEq,AV.c.injEq,AV.agg.injEq,aF.view.injEq,aL,true_and,and_true]at hnorm
 obtain⟨⟨rfl,rfl,rfl⟩,rfl,rfl,rfl⟩:=hnorm
 cases hb:c7 k v with
 |false=>exact mo t22 (UM k w v) (by simp[o1,o2,o3,hb])
 |true=>
  have hf:cE k w v=false:=by rw[hb]at o7;simpa using o7
  exact mo t22 (UN k w v) (by simp[o1,o2,o3,o4,o5,o6,hb,hf])
theorem W4 (v:List Int):aE tt (a9 T22) ([]) 100 Tryz.f167 [.c (.view (some false) (.ints .i64 v) v.length 1 none)] [] []=
  some ⟨.c (.sl 0 0 (0+v.length) 1 none),[.live (.ints .i64 ([]++v))],((decide (0+v.length≤274877906944))&&true),[]⟩:=by kernel_rfl
theorem W5 (v:List Int):aE tt (a9 T22) ([]) 100 Tryz.f167 [.c (.view (some true) (.ints .i64 v) v.length 1 none)] [] []=
  some ⟨.c .nils,[],true,[]⟩:=by kernel_rfl
def oA:aM:=fun args h=>
 match args,h with
 |[.c (.view _ (.ints .i64 v) n 1 _)],[]=>
  some (.c (.sl 0 0 v.length 1 none),[.live (.ints .i64 v)],[decide (v.length≤274877906944)])
 |_,_=>none
theorem m64:aS Tryz.prog 167 oA:=by
 intro args h res h' o hnorm he ho
 unfold oA at he
 split at he
 case h_2=>cases he
 rename_i nl v n cap
 simp only[Option.some.injEq,Prod.mk.injEq]at he
 obtain⟨rfl,rfl,rfl⟩:=he
 simp only[List.mem_cons,List.not_mem_nil,or_false,forall_eq_or_imp,forall_eq,decide_eq_true_eq]at ho
 have o1:=ho
 simp only[b8,AV.norm,bA,aF.norm,Con.size,List.cons.injEq,AV.c.injEq,AV.agg.injEq,aF.view.injEq,aL,true_and,and_true]at hnorm
 obtain⟨rfl,rfl,rfl⟩:=hnorm
 refine bE.nilCases ?_ fun hz=> ?_
 ·have e:=W4 v
  simp only[Nat.zero_add]at e
  exact mo t22 e (by simp[o1])
 ·have hv:v=[]:=List.eq_nil_of_length_eq_zero hz
  subst hv
  exact bE.nils (c0:=.ints .i64 []) (mo t22 (W5 []) (by simp)) rfl
theorem OS (v:List Bool):aE tt (a9 T22) ([]) 100 Tryz.f150 [.c (.view (some false) (.bools v) v.length 1 none)] [] []=
  some ⟨.c (.sl 0 0 (0+v.length) 1 none),[.live (.bools ([]++v))],((decide (0+v.length≤274877906944))&&true),[]⟩:=by kernel_rfl
theorem OT (v:List Bool):aE tt (a9 T22) ([]) 100 Tryz.f150 [.c (.view (some true) (.bools v) v.length 1 none)] [] []=
  some ⟨.c .nils,[],true,[]⟩:=by kernel_rfl
def lU:aM:=fun args h=>
 match args,h with
 |[.c (.view _ (.bools v) n 1 _)],[]=>
  some (.c (.sl 0 0 v.length 1 none),[.live (.bools v)],[decide (v.length≤274877906944)])
 |_,_=>none
theorem a7A:aS Tryz.prog 150 lU:=by
 intro args h res h' o hnorm he ho
 unfold lU at he
 split at he
 case h_2=>cases he
 rename_i nl v n cap
 simp only[Option.some.injEq,Prod.mk.injEq]at he
 obtain⟨rfl,rfl,rfl⟩:=he
 simp only[List.mem_cons,List.not_mem_nil,or_false,forall_eq_or_imp,forall_eq,decide_eq_true_eq]at ho
 have o1:=ho
 simp only[b8,AV.norm,bA,aF.norm,Con.size,List.cons.injEq,AV.c.injEq,AV.agg.injEq,aF.view.injEq,aL,true_and,and_true]at hnorm
 obtain⟨rfl,rfl,rfl⟩:=hnorm
 refine bE.nilCases ?_ fun hz=> ?_
 ·have e:=OS v
  simp only[Nat.zero_add]at e
  exact mo t22 e (by simp[o1])
 ·have hv:v=[]:=List.eq_nil_of_length_eq_zero hz
  subst hv
  exact bE.nils (c0:=.bools []) (mo t22 (OT []) (by simp)) rfl
theorem WX:aQ Tryz.prog 166 (dV tt (a9 T22) Tryz.f166 []):=cG hT t22 bF [] (by kernel_rfl) (by kernel_rfl)
theorem WW:aQ Tryz.prog 149 (dV tt (a9 T22) Tryz.f149 []):=cG hT t22 bF [] (by kernel_rfl) (by kernel_rfl)
noncomputable def T23:List aZ:=[⟨167,[],nm oA⟩,⟨150,[],nm lU⟩,⟨166,[0],dV tt (a9 T22) Tryz.f166 []⟩,⟨149,[0],dV tt (a9 T22) Tryz.f149 []⟩]++T22
theorem e23:a7 Tryz.prog T23:=by
 refine a7.append ?_ e22
 intro e he
 simp only[List.mem_cons,List.not_mem_nil,or_false]at he
 rcases he with rfl|rfl|rfl|rfl
 ·exact m64.ok
 ·exact a7A.ok
 ·exact WX
 ·exact WW
theorem t23:bK Tryz.prog (a9 T23):=aO e23
theorem a3I (k:Int) (a b:List Int) (c:List Bool):aE tt (a9 T22) ([]) 100 Tryz.f178 [.agg [.int .i64 k,.view none (.ints .i64 a) a.length 1 none,.view none (.ints .i64 b) b.length 1 none,.view none (.bools c) c.length 1 none]] [] [(0,true),(0,true)]=
  some ⟨.c (.bool (bif bif (↑a.length:Int)==8 then(↑b.length:Int)==8 else false then(↑c.length:Int)==8 else false)),[],(rp4 ((↑a.length:Int)==8) (rp4 (bif (↑a.length:Int)==8 then(↑b.length:Int)==8 else false) true)),[]⟩:=by kernel_rfl
theorem a3J (k:Int) (a b:List Int) (c:List Bool):aE tt (a9 T22) ([]) 100 Tryz.f178 [.agg [.int .i64 k,.view none (.ints .i64 a) a.length 1 none,.view none (.ints .i64 b) b.length 1 none,.view none (.bools c) c.length 1 none]] [] [(0,true),(0,false)]=
  some ⟨.c (.bool false),[],(rp4 ((↑a.length:Int)==8) (rp5 (!bif (↑a.length:Int)==8 then(↑b.length:Int)==8 else false) true)),[]⟩:=by kernel_rfl
theorem a3K (k:Int) (a b:List Int) (c:List Bool):aE tt (a9 T22) ([]) 100 Tryz.f178 [.agg [.int .i64 k,.view none (.ints .i64 a) a.length 1 none,.view none (.ints .i64 b) b.length 1 none,.view none (.bools c) c.length 1 none]] [] [(0,false)]=
  some ⟨.c (.bool false),[],(rp5 (!(↑a.length:Int)==8) true),[]⟩:=by kernel_rfl
def cZ (a b:List Int) (c:List Bool):Bool:=((a.length:Int)==8)&&((b.length:Int)==8)&&((c.length:Int)==8)
def rU:aM:=fun args h=>
 match args,h with
 |[.agg [.int .i64 k,.view _ (.ints .i64 a) n1 1 _,.view _ (.ints .i64 b) n2 1 _,.view _ (.bools c) n3 1 _]],[]=>
  some (.c (.bool (cZ a b c)),[],[])
 |_,_=>none
theorem m70:aS Tryz.prog 178 rU:=by
 intro args h res h' o hnorm he ho
 unfold rU at he
 split at he
 case h_2=>cases he
 rename_i k nl1 a n1 cap1 nl2 b n2 cap2 nl3 c n3 cap3
 simp only[Option.some.injEq,Prod.mk.injEq]at he
 obtain⟨rfl,rfl,rfl⟩:=he
 simp only[b8,AV.norm,bA,aF.norm,Con.size,List.cons.injEq,AV.c.injEq,AV.agg.injEq,aF.view.injEq,aL,true_and,and_true]at hnorm
 obtain⟨⟨rfl,rfl,rfl⟩,⟨rfl,rfl,rfl⟩,rfl,rfl,rfl⟩:=hnorm
 unfold cZ
 cases ha:(a.length:Int)==8 with
 |false=>exact mo t22 (a3K k a b c) (by simp[ha,-beq_eq_false_iff_ne])
 |true=>
  cases hb:(b.length:Int)==8 with
  |false=>exact mo t22 (a3J k a b c) (by simp only[ha,hb];rfl)
  |true=>
   have e:=mo (f:=178) t22 (a3I k a b c) (by simp only[ha,hb];rfl)
   simp only[ha,hb,cond_true]at e
   exact e
theorem a3X (k:Int) (a b:List Int) (c:List Bool):aE tt (a9 T23) ([]) 100 Tryz.f173 [.agg [.int .i64 k,.view none (.ints .i64 a) a.length 1 none,.view none (.ints .i64 b) b.length 1 none,.view none (.bools c) c.length 1 none]] [] []=
  some ⟨.agg [.int .i64 k,.sl 0 0 (↑a.length:Int).toNat 1 none,.sl 1 0 (↑b.length:Int).toNat 1 none,.sl 2 0 (↑c.length:Int).toNat 1 none],[.live (.ints .i64 a),.live (.ints .i64 b),.live (.bools c)],(decide (a.length≤274877906944)&&((rp2 (decide ((↑a.length:Int)≤(↑a.length:Int))) true)&&(decide (b.length≤274877906944)&&((rp2 (decide ((↑b.length:Int)≤(↑b.length:Int))) true)&&(decide (c.length≤274877906944)&&((rp2 (decide ((↑c.length:Int)≤(↑c.length:Int))) true)&&true)))))),[]⟩:=by kernel_rfl
def rP:aM:=fun args h=>
 match args,h with
 |[.agg [.int .i64 k,.view _ (.ints .i64 a) n1 1 _,.view _ (.ints .i64 b) n2 1 _,.view _ (.bools c) n3 1 _]],[]=>
  some (.agg [.int .i64 k,.sl 0 0 a.length 1 none,.sl 1 0 b.length 1 none,.sl 2 0 c.length 1 none],[.live (.ints .i64 a),.live (.ints .i64 b),.live (.bools c)],[decide (a.length≤274877906944),decide (b.length≤274877906944),decide (c.length≤274877906944)])
 |_,_=>none
theorem m99:aS Tryz.prog 173 rP:=by
 intro args h res h' o hnorm he ho
 unfold rP at he
 split at he
 case h_2=>cases he
 rename_i k nl1 a n1 cap1 nl2 b n2 cap2 nl3 c n3 cap3
 simp only[Option.some.injEq,Prod.mk.injEq]at he
 obtain⟨rfl,rfl,rfl⟩:=he
 simp only[List.mem_cons,List.not_mem_nil,or_false,forall_eq_or_imp,forall_eq,decide_eq_true_eq]at ho
 obtain⟨o1,o2,o3⟩:=ho
 simp only[b8,AV.norm,bA,aF.norm,Con.size,List.cons.injEq,AV.c.injEq,AV.agg.injEq,aF.view.injEq,aL,true_and,and_true]at hnorm
 obtain⟨⟨rfl,rfl,rfl⟩,⟨rfl,rfl,rfl⟩,rfl,rfl,rfl⟩:=hnorm
 exact mo t23 (a3X k a b c) (by simp[o1,o2,o3])
end
section
noncomputable def T24:List aZ:=[⟨178,[],nm rU⟩,⟨173,[],nm rP⟩]++T23
theorem e24:a7 Tryz.prog T24:=by
 refine a7.append ?_ e23
 intro e he
 simp only[List.mem_cons,List.not_mem_nil,or_false]at he
 rcases he with rfl|rfl
 ·exact m70.ok
 ·exact m99.ok
theorem t24:bK Tryz.prog (a9 T24):=aO e24
theorem a33 (k:Int) (a b:List Int) (c:List Bool) (on:Bool) (kd:Int) (d:List Int) (vs:Int):aE tt (a9 T24) ([]) 100 Tryz.f128 [.agg [.int .i64 k,.view none (.ints .i64 a) a.length 1 none,.view none (.ints .i64 b) b.length 1 none,.view none (.bools c) c.length 1 none,.bool on,.int .i64 kd,.view none (.ints .i64 d) d.length 1 none,.int .i64 vs]] [] []=
  some ⟨.agg [.int .i64 k,.sl 0 0 a.length 1 none,.sl 1 0 b.length 1 none,.sl 2 0 c.length 1 none,.bool on,.int .i64 kd,.sl 3 0 (↑d.length:Int).toNat 1 none,.int .i64 vs],[.live (.ints .i64 a),.live (.ints .i64 b),.live (.bools c),.live (.ints .i64 d)],(decide (a.length≤274877906944)&&(decide (b.length≤274877906944)&&(decide (c.length≤274877906944)&&(decide (d.length≤274877906944)&&((rp2 (decide ((↑d.length:Int)≤(↑d.length:Int))) true)&&true))))),[]⟩:=by kernel_rfl
theorem a8Q:aQ Tryz.prog 194 (dV tt (a9 T24) Tryz.f194 []):=cG hT t24 bF [] (by kernel_rfl) (by kernel_rfl)
theorem WZ:aQ Tryz.prog 130 (dV tt (a9 T24) Tryz.f130 []):=cG hT t24 bF [] (by kernel_rfl) (by kernel_rfl)
noncomputable def T25:List aZ:=[⟨194,[0],dV tt (a9 T24) Tryz.f194 []⟩,⟨130,[0],dV tt (a9 T24) Tryz.f130 []⟩]++T24
theorem e25:a7 Tryz.prog T25:=by
 refine a7.append ?_ e24
 intro e he
 simp only[List.mem_cons,List.not_mem_nil,or_false]at he
 rcases he with rfl|rfl
 ·exact a8Q
 ·exact WZ
theorem t25:bK Tryz.prog (a9 T25):=aO e25
def oC:aM:=fun args h=>
 match args,h with
 |[.agg [.int .i64 k,.view _ (.ints .i64 a) n1 1 _,.view _ (.ints .i64 b) n2 1 _,.view _ (.bools c) n3 1 _,.bool on,.int .i64 kd,.view _ (.ints .i64 d) n4 1 _,.int .i64 vs]],[]=>
  some (.agg [.int .i64 k,.sl 0 0 a.length 1 none,.sl 1 0 b.length 1 none,.sl 2 0 c.length 1 none,.bool on,.int .i64 kd,.sl 3 0 d.length 1 none,.int .i64 vs],[.live (.ints .i64 a),.live (.ints .i64 b),.live (.bools c),.live (.ints .i64 d)],[decide (a.length≤274877906944),decide (b.length≤274877906944),decide (c.length≤274877906944),decide (d.length≤274877906944)])
 |_,_=>none
theorem m48:aS Tryz.prog 128 oC:=by
 intro args h res h' o hnorm he ho
 unfold oC at he
 split at he
 case h_2=>cases he
 rename_i k nl1 a n1 cap1 nl2 b n2 cap2 nl3 c n3 cap3 on kd nl4 d n4 cap4 vs
 simp only[Option.some.injEq,Prod.mk.injEq]at he
 obtain⟨rfl,rfl,rfl⟩:=he
 simp only[List.mem_cons,List.not_mem_nil,or_false,forall_eq_or_imp,forall_eq,decide_eq_true_eq]at ho
 obtain⟨o1,o2,o3,o4⟩:=ho
 simp only[b8,AV.norm,bA,aF.norm,Con.size,List.cons.injEq,AV.c.injEq,AV.agg.injEq,aF.view.injEq,aL,true_and,and_true]at hnorm
 obtain⟨⟨rfl,rfl,rfl⟩,⟨rfl,rfl,rfl⟩,⟨rfl,rfl,rfl⟩,rfl,rfl,rfl⟩:=hnorm
 exact mo t24 (a33 k a b c on kd d vs) (by simp[o1,o2,o3,o4])
theorem UC:aQ Tryz.prog 189 (dV tt (a9 T25) Tryz.f189 []):=cG hT t25 bF [] (by kernel_rfl) (by kernel_rfl)
theorem R8:aQ Tryz.prog 190 (dV tt (a9 T25) Tryz.f190 []):=cG hT t25 bF [] (by kernel_rfl) (by kernel_rfl)
def qD (vs:Int) (i:Nat) (s:List Int×List Int×List Bool):List Int×List Int×List Bool:=
 bif s.2.1.getD i 0==vs then(s.1.set i 0,s.2.1.set i 0,s.2.2.set i false)else s
def aJ (a b:List Int) (c:List Bool) (vs:Int):List Int×List Int×List Bool:=bH (qD vs) b.length 0 (a,b,c)
noncomputable abbrev f71:=Tryz.f179
noncomputable def I71 (k:Int) (a b a' b':List Int) (c c':List Bool) (on:Bool) (kd:Int) (d:List Int) (vs:Int) (i:Int):St:=
 aR f71.ntmps [(1,.c (.ptr 0 0 0 0)),(2,.c (.ptr 1 0 0 0)),(3,.c (.ptr 2 0 0 0)),(10,.c (.sl 3 0 b.length 1 none)),(11,.c (.int .i64 b.length)),(12,.c (.int .i64 i))]
  [.live (.cells [.int .i64 k,.view none (.ints .i64 a) a.length 1 none,.view none (.ints .i64 b) b.length 1 none,.view none (.bools c) c.length 1 none,.bool on,.int .i64 kd,.view none (.ints .i64 d) d.length 1 none,.int .i64 vs]),.live (.cells [.int .i64 0,.nils,.nils,.nils]),.live (.cells [.int .i64 k,.sl 4 0 a.length 1 none,.sl 3 0 b.length 1 none,.sl 5 0 c.length 1 none]),.live (.ints .i64 b'),.live (.ints .i64 a'),.live (.bools c')]
noncomputable def X71 (k:Int) (na nb nc:Nat) (a' b':List Int) (c':List Bool):St:=
 aR f71.ntmps [(2,.c (.ptr 0 0 0 0)),(3,.c (.ptr 1 0 0 0))]
  [.live (.cells [.int .i64 0,.nils,.nils,.nils]),.live (.cells [.int .i64 k,.sl 2 0 na 1 none,.sl 3 0 nb 1 none,.sl 4 0 nc 1 none]),.live (.ints .i64 a'),.live (.ints .i64 b'),.live (.bools c')]
theorem a01 (k:Int) (a b a' b':List Int) (c c':List Bool) (on:Bool) (kd:Int) (d:List Int) (vs:Int) (i:Int):aC 0 (a6 f71 0) (a8 f71 0) (aD tt (a9 T25) ([]) 0 100 (a5 0 (a0 f71)) (I71 k a b a' b' c c' on kd d vs i) [(0,true),(0,true)])=
  some (.normal,(decide (i<(↑b.length:Int))&&(decide (0≤i)&&(decide (i<(↑b.length:Int))&&(decide (i.toNat<b'.length)&&((b'.getD i.toNat 0==vs)&&((decide (0≤i)&&(decide (i<(↑a.length:Int))&&(decide (i.toNat<a'.length)&&(decide (0≤i)&&(decide (i<(↑b.length:Int))&&(decide (i.toNat<b'.length)&&(decide (0≤i)&&(decide (i<(↑c.length:Int))&&(decide (i.toNat<c'.length)&&true)))))))))&&true)))))),[],I71 k a b (a'.set i.toNat 0) (b'.set i.toNat 0) c (c'.set i.toNat false) on kd d vs (IntKind.i64.wrap (i+1))):=by kernel_rfl
theorem a02 (k:Int) (a b a' b':List Int) (c c':List Bool) (on:Bool) (kd:Int) (d:List Int) (vs:Int) (i:Int):aC 0 (a6 f71 0) (a8 f71 0) (aD tt (a9 T25) ([]) 0 100 (a5 0 (a0 f71)) (I71 k a b a' b' c c' on kd d vs i) [(0,true),(0,false)])=
  some (.normal,(decide (i<(↑b.length:Int))&&(decide (0≤i)&&(decide (i<(↑b.length:Int))&&(decide (i.toNat<b'.length)&&((!b'.getD i.toNat 0==vs)&&true))))),[],I71 k a b (a') (b') c (c') on kd d vs (IntKind.i64.wrap (i+1))):=by kernel_rfl
theorem a03 (k:Int) (a b a' b':List Int) (c c':List Bool) (on:Bool) (kd:Int) (d:List Int) (vs:Int) (i:Int):aC 0 (a6 f71 0) (a8 f71 0) (aD tt (a9 T25) ([]) 0 100 (a5 0 (a0 f71)) (I71 k a b a' b' c c' on kd d vs i) [(0,false)])=
  some (.exit 0,((!decide (i<(↑b.length:Int)))&&true),[],X71 k a.length b.length c.length (a') (b') (c')):=by kernel_rfl
theorem l71 (k:Int) (a b:List Int) (c:List Bool) (on:Bool) (kd:Int) (d:List Int) (vs:Int) (hb:b.length≤274877906944) (ha:a.length=b.length) (hc:c.length=b.length):
  aN none Tryz.prog 0 (.block 0 (.loop (a5 0 (a0 f71)))) (I71 k a b a b c c on kd d vs 0) fun e t=>e=.normal∧t=X71 k a.length b.length c.length (aJ a b c vs).1 (aJ a b c vs).2.1 (aJ a b c vs).2.2:=by
 refine aN.count (ro:=none) hT t25 bF b.length (fun _ s=>s.1.length=b.length∧s.2.1.length=b.length∧s.2.2.length=b.length) (fun i s=>I71 k a b s.1 s.2.1 c s.2.2 on kd d vs i)
  (fun s=>X71 k a.length b.length c.length s.1 s.2.1 s.2.2) (qD vs) (a6 f71 0) (a8 f71 0)
  (fun _ _=>[]) (fun _ _ _ _=>aK.nil) (fun i s hi h=> ?_) (fun s _=>⟨_,_,⟨_,_,a03 k a b s.1 s.2.1 c s.2.2 on kd d vs b.length,by simp,by simp⟩⟩) (a,b,c) ⟨ha,rfl,hc⟩
 obtain⟨a',b',c'⟩:=s
 obtain⟨h1,h2,h3⟩:=h
 dsimp only at h1 h2 h3
 unfold qD
 cases hz:b'.getD i 0==vs with
 |true=>
  refine⟨by simp[h1,h2,h3], ?_⟩
  have e:=a01 k a b a' b' c c' on kd d vs i
  rw[aB (i:=(i:Int)+1) (by omega) (by omega),Int.toNat_natCast]at e
  refine⟨_,_,⟨_,_,e, ?_,by simp⟩⟩
  simp only[hz,Bool.true_and,rpS,Bool.and_true,Bool.and_eq_true,decide_eq_true_eq]
  omega
 |false=>
  refine⟨⟨h1,h2,h3⟩, ?_⟩
  have e:=a02 k a b a' b' c c' on kd d vs i
  rw[aB (by omega) (by omega),Int.toNat_natCast]at e
  refine⟨_,_,⟨_,_,e, ?_,by simp⟩⟩
  simp only[hz,Bool.not_false,Bool.true_and,rpS,Bool.and_true,Bool.and_eq_true,decide_eq_true_eq]
  omega
theorem a3L (k:Int) (a b:List Int) (c:List Bool) (on:Bool) (kd:Int) (d:List Int) (vs:Int):aE tt (a9 T25) ([(0,⟨a6 f71 0,I71 k a b a b c c on kd d vs 0,.normal,X71 k a.length b.length c.length (aJ a b c vs).1 (aJ a b c vs).2.1 (aJ a b c vs).2.2⟩)]) 100 f71 [.agg [.int .i64 k,.view none (.ints .i64 a) a.length 1 none,.view none (.ints .i64 b) b.length 1 none,.view none (.bools c) c.length 1 none,.bool on,.int .i64 kd,.view none (.ints .i64 d) d.length 1 none,.int .i64 vs]] [] []=
  some ⟨.agg [.int .i64 k,.sl 0 0 a.length 1 none,.sl 1 0 b.length 1 none,.sl 2 0 c.length 1 none],[.live (.ints .i64 (aJ a b c vs).fst),.live (.ints .i64 (aJ a b c vs).2.1),.live (.bools (aJ a b c vs).2.2)],(decide (a.length≤274877906944)&&(decide (b.length≤274877906944)&&((decide (c.length≤274877906944))&&true))),[I71 k a b a b c c on kd d vs 0=I71 k a b a b c c on kd d vs 0]⟩:=by kernel_rfl
def BY:aM:=fun args h=>
 match args,h with
 |[.agg [.int .i64 k,.view _ (.ints .i64 a) n1 1 _,.view _ (.ints .i64 b) n2 1 _,.view _ (.bools c) n3 1 _,.bool on,.int .i64 kd,.view _ (.ints .i64 d) n4 1 _,.int .i64 vs]],[]=>
  some (.agg [.int .i64 k,.sl 0 0 a.length 1 none,.sl 1 0 b.length 1 none,.sl 2 0 c.length 1 none],[.live (.ints .i64 (aJ a b c vs).1),.live (.ints .i64 (aJ a b c vs).2.1),.live (.bools (aJ a b c vs).2.2)],[decide (b.length≤274877906944),decide (a.length=b.length),decide (c.length=b.length)])
 |_,_=>none
theorem m71:aS Tryz.prog 179 BY:=by
 intro args h res h' o hnorm he ho
 unfold BY at he
 split at he
 case h_2=>cases he
 rename_i k nl1 a n1 cap1 nl2 b n2 cap2 nl3 c n3 cap3 on kd nl4 d n4 cap4 vs
 simp only[Option.some.injEq,Prod.mk.injEq]at he
 obtain⟨rfl,rfl,rfl⟩:=he
 simp only[List.mem_cons,List.not_mem_nil,or_false,forall_eq_or_imp,forall_eq,decide_eq_true_eq]at ho
 obtain⟨o1,o2,o3⟩:=ho
 simp only[b8,AV.norm,bA,aF.norm,Con.size,List.cons.injEq,AV.c.injEq,AV.agg.injEq,aF.view.injEq,aL,true_and,and_true]at hnorm
 obtain⟨⟨rfl,rfl,rfl⟩,⟨rfl,rfl,rfl⟩,⟨rfl,rfl,rfl⟩,rfl,rfl,rfl⟩:=hnorm
 exact mo t25 (a3L k a b c on kd d vs) (by simp[o1,o2,o3]) (hlc:=(fun cc hc=>aK.cons (c:=cc) (by cases hc;kernel_rfl) (by cases hc;exact l71 k a b c on kd d vs o1 o2 o3) aK.nil))
end
section
noncomputable def T26:List aZ:=[⟨128,[],nm oC⟩,⟨189,[0],dV tt (a9 T25) Tryz.f189 []⟩,⟨190,[0],dV tt (a9 T25) Tryz.f190 []⟩,⟨179,[],nm BY⟩]++T25
theorem e26:a7 Tryz.prog T26:=by
 refine a7.append ?_ e25
 intro e he
 simp only[List.mem_cons,List.not_mem_nil,or_false]at he
 rcases he with rfl|rfl|rfl|rfl
 ·exact m48.ok
 ·exact UC
 ·exact R8
 ·exact m71.ok
theorem t26:bK Tryz.prog (a9 T26):=aO e26
theorem a8O:aQ Tryz.prog 224 (dV tt (a9 T26) Tryz.f224 []):=cG hT t26 bF [] (by kernel_rfl) (by kernel_rfl)
noncomputable def T27:List aZ:=[⟨224,[1,2],dV tt (a9 T26) Tryz.f224 []⟩]++T26
theorem e27:a7 Tryz.prog T27:=by
 refine a7.append ?_ e26
 intro e he
 simp only[List.mem_cons,List.not_mem_nil,or_false]at he
 subst he;exact a8O
theorem t27:bK Tryz.prog (a9 T27):=aO e27
noncomputable abbrev eP:=Tryz.f122
noncomputable def jC (k:Int) (n1 n2 n3:Nat) (nl1 nl2 nl3:Option Bool) (cap1 cap2 cap3:Option Nat) (a b:List Int) (c:List Bool) (vs:Int) (v:List Int) (i:Int):St:=
 aR eP.ntmps [(0,.c (.sl 0 0 v.length 1 none)),(1,.c (.fn 224 [.ptr 1 0 0 0,.ptr 2 0 0 0])),(7,.c (.int .i64 v.length)),(8,.c (.int .i64 i))] [.live (.ints .i64 v),.live (.cells [.int .i64 k,.view nl1 (.ints .i64 a) n1 1 cap1,.view nl2 (.ints .i64 b) n2 1 cap2,.view nl3 (.bools c) n3 1 cap3]),.live (.ints .i64 [vs])]
noncomputable def HL (k:Int) (n1 n2 n3:Nat) (nl1 nl2 nl3:Option Bool) (cap1 cap2 cap3:Option Nat) (a b:List Int) (c:List Bool) (vs:Int) (v:List Int):St:=aR eP.ntmps [] [.live (.ints .i64 v),.live (.cells [.int .i64 k,.view nl1 (.ints .i64 a) n1 1 cap1,.view nl2 (.ints .i64 b) n2 1 cap2,.view nl3 (.bools c) n3 1 cap3]),.live (.ints .i64 [vs])]
noncomputable def HQ (k:Int) (n1 n2 n3:Nat) (nl1 nl2 nl3:Option Bool) (cap1 cap2 cap3:Option Nat) (a b:List Int) (c:List Bool) (vs:Int) (v:List Int) (i:Int):St:=aR eP.ntmps [(4,.c (.int .i64 i))] [.live (.ints .i64 v),.live (.cells [.int .i64 k,.view nl1 (.ints .i64 a) n1 1 cap1,.view nl2 (.ints .i64 b) n2 1 cap2,.view nl3 (.bools c) n3 1 cap3]),.live (.ints .i64 [vs])]
theorem NK (k:Int) (n1 n2 n3:Nat) (nl1 nl2 nl3:Option Bool) (cap1 cap2 cap3:Option Nat) (a b:List Int) (c:List Bool) (vs:Int) (v:List Int) (i:Int):aC 3 (a6 eP 0) (a8 eP 0) (aD tt (a9 T27) ([]) 3 100 (a5 0 (a0 eP)) (jC k n1 n2 n3 nl1 nl2 nl3 cap1 cap2 cap3 a b c vs v i) [(0,true),(0,true)])=
  some (.ret,(decide (i<(↑v.length:Int))&&(decide (0≤i)&&(decide (i<(↑v.length:Int))&&(decide (i.toNat<v.length)&&((decide (0≤v.getD i.toNat 0)&&(decide (v.getD i.toNat 0<(↑n2:Int))&&(decide ((v.getD i.toNat 0).toNat<b.length)&&true)))&&((b.getD (v.getD i.toNat 0).toNat 0 !=vs)&&true)))))),[],HQ k n1 n2 n3 nl1 nl2 nl3 cap1 cap2 cap3 a b c vs v (i)):=by kernel_rfl
theorem NL (k:Int) (n1 n2 n3:Nat) (nl1 nl2 nl3:Option Bool) (cap1 cap2 cap3:Option Nat) (a b:List Int) (c:List Bool) (vs:Int) (v:List Int) (i:Int):aC 3 (a6 eP 0) (a8 eP 0) (aD tt (a9 T27) ([]) 3 100 (a5 0 (a0 eP)) (jC k n1 n2 n3 nl1 nl2 nl3 cap1 cap2 cap3 a b c vs v i) [(0,true),(0,false)])=
  some (.normal,(decide (i<(↑v.length:Int))&&(decide (0≤i)&&(decide (i<(↑v.length:Int))&&(decide (i.toNat<v.length)&&((decide (0≤v.getD i.toNat 0)&&(decide (v.getD i.toNat 0<(↑n2:Int))&&(decide ((v.getD i.toNat 0).toNat<b.length)&&true)))&&((!b.getD (v.getD i.toNat 0).toNat 0 !=vs)&&true)))))),[],jC k n1 n2 n3 nl1 nl2 nl3 cap1 cap2 cap3 a b c vs v (IntKind.i64.wrap (i+1))):=by kernel_rfl
theorem NM (k:Int) (n1 n2 n3:Nat) (nl1 nl2 nl3:Option Bool) (cap1 cap2 cap3:Option Nat) (a b:List Int) (c:List Bool) (vs:Int) (v:List Int) (i:Int):aC 3 (a6 eP 0) (a8 eP 0) (aD tt (a9 T27) ([]) 3 100 (a5 0 (a0 eP)) (jC k n1 n2 n3 nl1 nl2 nl3 cap1 cap2 cap3 a b c vs v i) [(0,false)])=
  some (.exit 0,((!decide (i<(↑v.length:Int)))&&true),[],HL k n1 n2 n3 nl1 nl2 nl3 cap1 cap2 cap3 a b c vs v):=by kernel_rfl
noncomputable def PC (k:Int) (n1 n2 n3:Nat) (nl1 nl2 nl3:Option Bool) (cap1 cap2 cap3:Option Nat) (a b:List Int) (c:List Bool) (vs:Int) (v:List Int):Option Nat→St
 |some j=>HQ k n1 n2 n3 nl1 nl2 nl3 cap1 cap2 cap3 a b c vs v j
 |none=>HL k n1 n2 n3 nl1 nl2 nl3 cap1 cap2 cap3 a b c vs v
theorem Y6 (k:Int) (n1 n2 n3:Nat) (nl1 nl2 nl3:Option Bool) (cap1 cap2 cap3:Option Nat) (a b:List Int) (c:List Bool) (vs:Int) (v:List Int) (hl:v.length≤274877906944) (hok: ∀i,i<v.length→(0≤v.getD i 0∧v.getD i 0<n2)∧(v.getD i 0).toNat<b.length):
  aN none Tryz.prog 3 (.block 0 (.loop (a5 0 (a0 eP)))) (jC k n1 n2 n3 nl1 nl2 nl3 cap1 cap2 cap3 a b c vs v 0) fun e t=>e=uW (eU (fun x=>b.getD x.toNat 0 !=vs) v)∧t=PC k n1 n2 n3 nl1 nl2 nl3 cap1 cap2 cap3 a b c vs v (eU (fun x=>b.getD x.toNat 0 !=vs) v):=by
 refine aN.roundsR (ro:=none) hT t27 bF (m:=3) (id:=0) (body:=a5 0 (a0 eP)) (α:=Nat)
  (fun i=>i≤v.length∧dM (fun x=>b.getD x.toNat 0 !=vs) v (v.length-i) i=eU (fun x=>b.getD x.toNat 0 !=vs) v) (fun i=>jC k n1 n2 n3 nl1 nl2 nl3 cap1 cap2 cap3 a b c vs v i) (fun i=>v.length-i) (a6 eP 0) (a8 eP 0)
  (fun _=>uW (eU (fun x=>b.getD x.toNat 0 !=vs) v)) (fun _=>PC k n1 n2 n3 nl1 nl2 nl3 cap1 cap2 cap3 a b c vs v (eU (fun x=>b.getD x.toNat 0 !=vs) v)) (fun _=>[]) (fun _ _=>aK.nil) (fun i hx=> ?_) 0 ⟨by simp,rfl⟩
 obtain⟨h1,h3⟩:=hx
 by_cases hi:i<v.length
 ·have hk:v.length-i=(v.length-(i+1))+1:=by omega
  rw[hk]at h3
  simp only[dM]at h3
  obtain⟨⟨ho1,ho2⟩,ho3⟩:=hok i hi
  cases hz:(fun x=>b.getD x.toNat 0 !=vs) (v.getD i 0)with
  |false=>
   dsimp only at hz
   rw[hz]at h3
   have e:=NL k n1 n2 n3 nl1 nl2 nl3 cap1 cap2 cap3 a b c vs v i
   rw[aB (by omega) (by omega),Int.toNat_natCast]at e
   refine⟨_,_,_,_,_,_,e, ?_,by simp,.inl ⟨rfl,i+1,⟨by omega,by simpa using h3⟩,by omega,rfl,rfl,rfl⟩⟩
   simp only[hz,Bool.not_false,Bool.true_and,rpS,Bool.and_true,Bool.and_eq_true,decide_eq_true_eq]
   omega
  |true=>
   dsimp only at hz
   rw[hz]at h3
   simp only[cond_true]at h3
   have e:=NK k n1 n2 n3 nl1 nl2 nl3 cap1 cap2 cap3 a b c vs v i
   rw[Int.toNat_natCast]at e
   refine⟨_,_,_,_,_,_,e, ?_,by simp,.inr (.inr ⟨by simp,by simp, ?_, ?_⟩)⟩
   ·simp only[hz,Bool.true_and,rpS,Bool.and_true,Bool.and_eq_true,decide_eq_true_eq]
    omega
   ·rw[←h3];rfl
   ·rw[←h3];rfl
 ·have hz:v.length-i=0:=by omega
  rw[hz]at h3
  simp only[dM]at h3
  exact⟨_,_,_,_,_,_,NM k n1 n2 n3 nl1 nl2 nl3 cap1 cap2 cap3 a b c vs v i,by simp;omega,by simp,.inr (.inl ⟨rfl,by rw[←h3];rfl,by rw[←h3];rfl⟩)⟩
def d7 (v:List Int) (n:Nat):Bool:=v.all fun x=>decide (0≤x)&&decide (x<n)
theorem gL {v:List Int} {n:Nat} (h:d7 v n=true) {i:Nat} (hi:i<v.length):0≤v.getD i 0∧v.getD i 0<n:=by
 rw[List.getD_eq_getElem?_getD,List.getElem?_eq_getElem hi]
 have:=List.all_eq_true.1 h _ (List.getElem_mem hi)
 simpa using this
def wS:aM:=fun args h=>
 match args,h with
 |[.c (.sl 0 0 n 1 none),.c (.fn 224 [.ptr 1 0 0 0,.ptr 2 0 0 0])],[.live (.ints .i64 v),.live (.cells [.int .i64 k,.view nl1 (.ints .i64 a) n1 1 cap1,.view nl2 (.ints .i64 b) n2 1 cap2,.view nl3 (.bools c) n3 1 cap3]),.live (.ints .i64 [vs])]=>
  some (.c (.int .i64 (eD (fun x=>b.getD x.toNat 0 !=vs) v)),[.live (.ints .i64 v),.live (.cells [.int .i64 k,.view nl1 (.ints .i64 a) n1 1 cap1,.view nl2 (.ints .i64 b) n2 1 cap2,.view nl3 (.bools c) n3 1 cap3]),.live (.ints .i64 [vs])],[decide (v.length≤274877906944),decide (v.length=n),d7 v b.length,decide (n2=b.length)])
 |_,_=>none
theorem OV (k:Int) (n1 n2 n3:Nat) (nl1 nl2 nl3:Option Bool) (cap1 cap2 cap3:Option Nat) (a b:List Int) (c:List Bool) (vs:Int) (v:List Int):aE tt (a9 T27) ([(0,⟨a6 eP 0,jC k n1 n2 n3 nl1 nl2 nl3 cap1 cap2 cap3 a b c vs v 0,.normal,HL k n1 n2 n3 nl1 nl2 nl3 cap1 cap2 cap3 a b c vs v⟩)]) 100 eP [.c (.sl 0 0 v.length 1 none),.c (.fn 224 [.ptr 1 0 0 0,.ptr 2 0 0 0])] [.live (.ints .i64 v),.live (.cells [.int .i64 k,.view nl1 (.ints .i64 a) n1 1 cap1,.view nl2 (.ints .i64 b) n2 1 cap2,.view nl3 (.bools c) n3 1 cap3]),.live (.ints .i64 [vs])] []=
  some ⟨.c (.int .i64 (-1)),[.live (.ints .i64 v),.live (.cells [.int .i64 k,.view nl1 (.ints .i64 a) n1 1 cap1,.view nl2 (.ints .i64 b) n2 1 cap2,.view nl3 (.bools c) n3 1 cap3]),.live (.ints .i64 [vs])],true,[jC k n1 n2 n3 nl1 nl2 nl3 cap1 cap2 cap3 a b c vs v 0=jC k n1 n2 n3 nl1 nl2 nl3 cap1 cap2 cap3 a b c vs v 0]⟩:=by kernel_rfl
theorem OW (k:Int) (n1 n2 n3:Nat) (nl1 nl2 nl3:Option Bool) (cap1 cap2 cap3:Option Nat) (a b:List Int) (c:List Bool) (vs:Int) (v:List Int) (j:Nat):aE tt (a9 T27) ([(0,⟨a6 eP 0,jC k n1 n2 n3 nl1 nl2 nl3 cap1 cap2 cap3 a b c vs v 0,.ret,HQ k n1 n2 n3 nl1 nl2 nl3 cap1 cap2 cap3 a b c vs v j⟩)]) 100 eP [.c (.sl 0 0 v.length 1 none),.c (.fn 224 [.ptr 1 0 0 0,.ptr 2 0 0 0])] [.live (.ints .i64 v),.live (.cells [.int .i64 k,.view nl1 (.ints .i64 a) n1 1 cap1,.view nl2 (.ints .i64 b) n2 1 cap2,.view nl3 (.bools c) n3 1 cap3]),.live (.ints .i64 [vs])] []=
  some ⟨.c (.int .i64 (↑j:Int)),[.live (.ints .i64 v),.live (.cells [.int .i64 k,.view nl1 (.ints .i64 a) n1 1 cap1,.view nl2 (.ints .i64 b) n2 1 cap2,.view nl3 (.bools c) n3 1 cap3]),.live (.ints .i64 [vs])],true,[jC k n1 n2 n3 nl1 nl2 nl3 cap1 cap2 cap3 a b c vs v 0=jC k n1 n2 n3 nl1 nl2 nl3 cap1 cap2 cap3 a b c vs v 0]⟩:=by kernel_rfl
theorem YO:aQ Tryz.prog 122 wS:=by
 intro args h res h' o he ho
 unfold wS at he
 split at he
 case h_2=>cases he
 rename_i n v k nl1 a n1 cap1 nl2 b n2 cap2 nl3 c n3 cap3 vs
 simp only[Option.some.injEq,Prod.mk.injEq]at he
 obtain⟨rfl,rfl,rfl⟩:=he
 simp only[List.mem_cons,List.not_mem_nil,or_false,forall_eq_or_imp,forall_eq,decide_eq_true_eq]at ho
 obtain⟨o1,o2,o3,o4⟩:=ho
 subst o2
 have g:=Y6 k n1 n2 n3 nl1 nl2 nl3 cap1 cap2 cap3 a b c vs v o1 (fun i hi=>by have:=gL o3 hi;omega)
 unfold eD
 cases hx:eU (fun x=>b.getD x.toNat 0 !=vs) v with
 |none=>
  rw[hx]at g
  exact mo (fn:=eP) t27 (OV k n1 n2 n3 nl1 nl2 nl3 cap1 cap2 cap3 a b c vs v) rfl (hlc:=(fun cc hc=>aK.cons (c:=cc) (by cases hc;kernel_rfl) (by cases hc;exact g) aK.nil))
 |some j=>
  rw[hx]at g
  exact mo (fn:=eP) t27 (OW k n1 n2 n3 nl1 nl2 nl3 cap1 cap2 cap3 a b c vs v j) rfl (hlc:=(fun cc hc=>aK.cons (c:=cc) (by cases hc;kernel_rfl) (by cases hc;exact g) aK.nil))
noncomputable def T28:List aZ:=[⟨122,[0,1],wS⟩]++T27
theorem e28:a7 Tryz.prog T28:=by
 refine a7.append ?_ e27
 intro e he
 simp only[List.mem_cons,List.not_mem_nil,or_false]at he
 subst he;exact YO
theorem t28:bK Tryz.prog (a9 T28):=aO e28
noncomputable abbrev iV:=Tryz.f223
end
section
def fF (s t:aU):Prop:= ∀(X:Nat→Prop) (w:World) (ρ:Rho) (x:Wh),eN X w ρ s x→eN X w ρ t x
theorem fF.refl (s:aU):fF s s:=fun _ _ _ _ h=>h
theorem fF.take (k:IntKind) (xs:List Int) (n:Nat):fF (.live (.ints k xs)) (.live (.ints k (xs.take n))):=fun X w ρ x h=>by
 cases x with
 |unborn=>exact h.elim
 |dead=>exact h.elim
 |nil=>simp only[eN,Con.size,List.length_take]at h⊢;omega
 |row b=>
  obtain⟨cs,ty,h1,h2,h3⟩:=h
  simp only[Con.size]at h2 h3
  refine⟨cs,ty,h1,by simp only[Con.size,List.length_take];omega,fun q hq=> ?_⟩
  simp only[Con.size,List.length_take]at hq
  have:=h3 q (by omega)
  simp only[Con.cell]at this⊢
  rw[List.getD_eq_getElem?_getD,List.getElem?_take,if_pos (by omega),←List.getD_eq_getElem?_getD]
  exact this
def rH:List aU→List aU→Prop
 |[],[]=>True
 |s::r,t::r'=>fF s t∧rH r r'
 |_,_=>False
theorem kK: ∀ {h h':List aU},rH h h'→ ∀id,fF (Heap.get h id) (Heap.get h' id)
 |[],[],_,id=>fF.refl _
 |s::r,t::r',h,0=>h.1
 |s::r,t::r',h,id+1=>by
  have:=kK h.2 id
  simpa [Heap.get]using this
 |[],_::_,h,_=>h.elim
 |_::_,[],h,_=>h.elim
theorem bE.slots {P:Program} {f:FuncId} {args:List AV} {h h' h'':List aU} {res:AV} (hm:bE P f args h res h') (hs:rH h' h''):bE P f args h res h'':=by
 refine⟨hm.1,fun {X w0 ρ0} m vs hl hv=> ?_⟩
 refine Calls.mono (hm.2 m vs hl hv) ?_
 rintro e w' ⟨v,ρ',rfl,mb,im,m',hr⟩
 exact⟨v,ρ',rfl,mb,im,⟨fun id=>kK hs id _ _ _ _ (m'.slot id),m'.inj,m'.own,m'.os,m'.tape,m'.output,m'.size,m'.keep,m'.foreign⟩,hr⟩
theorem bE.nilTup {P:Program} {f:FuncId} {args:List AV} {h h':List aU} {es:Nat} {c0:Con} {r:List AV} (hm:bE P f args h (.tup (.c .nils::r)) h') (hc:c0.size=0):
  bE P f args h (.tup (.c (.sl h'.length 0 0 es none)::r)) (h'++[.live c0]):=by
 refine⟨hm.1,fun {X w0 ρ0} m vs hl hv=> ?_⟩
 refine Calls.mono (hm.2 m vs hl hv) ?_
 rintro e w' ⟨v,ρ',rfl,mb,im,m',hr⟩
 obtain⟨hun,m2⟩:=m'.addNil hc
 have mo:=gK w' hun
 refine⟨v,_,rfl,mb.trans mo.toB,im.trans mo.ids,m2, ?_⟩
 cases hr with
 |tup l vs hs hx=>
  refine .tup _ _ (by simpa using hs) fun i hi=> ?_
  cases i with
  |zero=>
   have h0:=hx 0 (by simp)
   simp only[List.getD_cons_zero]at h0⊢
   cases h0 with
   |c x v hx=>exact .c _ _ (iK hx)
  |succ i=>
   have:=hx (i+1) (by simpa using hi)
   simp only[List.getD_cons_succ]at this⊢
   exact this.mono mo
def tK (id es:Nat):List aF→Option (List aF)
 |[]=>none
 |.nils::r=>some (.sl id 0 0 es none::r)
 |x::r=>(tK id es r).map (x:: ·)
def A2 (id es:Nat):AV→Option AV
 |.c .nils=>some (.c (.sl id 0 0 es none))
 |.agg l=>(tK id es l).map .agg
 |_=>none
def A3 (id es:Nat):List AV→Option (List AV)
 |[]=>none
 |x::r=>match A2 id es x with
  |some y=>some (y::r)
  |none=>(A3 id es r).map (x:: ·)
def nil1 (id es:Nat):AV→Option AV
 |.tup l=>(A3 id es l).map .tup
 |x=>A2 id es x
theorem q7 {X:Nat→Prop} {w:World} {ρ:Rho} {id es:Nat} (hun:ρ id=.unborn): ∀ {l l':List aF},tK id es l=some l'→
  l'.length=l.length∧ ∀i v,CR X w ρ (l.getD i .any) v→CR X w (upd ρ id .nil) (l'.getD i .any) v
 |[],l',h=>by simp[tK]at h
 |x::r,l',h=>by
  have mo:=gK w hun
  by_cases hx:x=.nils
  ·subst hx
   simp only[tK,Option.some.injEq]at h
   subst h
   refine⟨rfl,fun i v hv=> ?_⟩
   cases i with
   |zero=>simp only[List.getD_cons_zero]at hv⊢;exact iK hv
   |succ i=>simp only[List.getD_cons_succ]at hv⊢;exact hv.mono mo
  ·have hh:tK id es (x::r)=(tK id es r).map (x:: ·):=by
    cases x<;>first|rfl|exact absurd rfl hx
   rw[hh]at h
   obtain⟨r',h1,h2⟩:=Option.map_eq_some_iff.1 h
   subst h2
   obtain⟨g1,g2⟩:=q7 (X:=X) (w:=w) hun h1
   refine⟨by simp[g1],fun i v hv=> ?_⟩
   cases i with
   |zero=>simp only[List.getD_cons_zero]at hv⊢;exact hv.mono mo
   |succ i=>simp only[List.getD_cons_succ]at hv⊢;exact g2 i v hv
theorem kD {X:Nat→Prop} {w:World} {ρ:Rho} {id es:Nat} (hun:ρ id=.unborn) {x y:AV} {v:Value} (h:A2 id es x=some y) (hx:AVR X w ρ x v):AVR X w (upd ρ id .nil) y v:=by
 unfold A2 at h
 split at h
 ·injection h with h;subst h
  cases hx with
  |c x v hx=>exact .c _ _ (iK hx)
 ·obtain⟨l',h1,h2⟩:=Option.map_eq_some_iff.1 h
  subst h2
  cases hx with
  |agg cs vs hs hx=>
   obtain⟨g1,g2⟩:=q7 (X:=X) (w:=w) hun h1
   exact .agg _ _ (by rw[g1];exact hs) fun i hi=>g2 i _ (hx i (by rw[←g1];exact hi))
 ·cases h
theorem q8 {X:Nat→Prop} {w:World} {ρ:Rho} {id es:Nat} (hun:ρ id=.unborn): ∀ {l l':List AV},A3 id es l=some l'→
  l'.length=l.length∧ ∀i v,i<l.length→AVR X w ρ (l.getD i (.tup [])) v→AVR X w (upd ρ id .nil) (l'.getD i (.tup [])) v
 |[],l',h=>by simp[A3]at h
 |x::r,l',h=>by
  have mo:=gK w hun
  simp only[A3]at h
  split at h
  ·rename_i y hy
   injection h with h;subst h
   refine⟨rfl,fun i v hi hv=> ?_⟩
   cases i with
   |zero=>simp only[List.getD_cons_zero]at hv⊢;exact kD hun hy hv
   |succ i=>simp only[List.getD_cons_succ]at hv⊢;exact hv.mono mo
  ·obtain⟨r',h1,h2⟩:=Option.map_eq_some_iff.1 h
   subst h2
   obtain⟨g1,g2⟩:=q8 (X:=X) (w:=w) hun h1
   refine⟨by simp[g1],fun i v hi hv=> ?_⟩
   cases i with
   |zero=>simp only[List.getD_cons_zero]at hv⊢;exact hv.mono mo
   |succ i=>simp only[List.getD_cons_succ]at hv⊢;exact g2 i v (by simpa using hi) hv
theorem bE.nil1 {P:Program} {f:FuncId} {args:List AV} {h h':List aU} {es:Nat} {c0:Con} {res res':AV} (hm:bE P f args h res h') (hc:c0.size=0) (hr:Am.nil1 h'.length es res=some res'):
  bE P f args h res' (h'++[.live c0]):=by
 refine⟨hm.1,fun {X w0 ρ0} m vs hl hv=> ?_⟩
 refine Calls.mono (hm.2 m vs hl hv) ?_
 rintro e w' ⟨v,ρ',rfl,mb,im,m',hx⟩
 obtain⟨hun,m2⟩:=m'.addNil hc
 have mo:=gK w' hun
 refine⟨v,_,rfl,mb.trans mo.toB,im.trans mo.ids,m2, ?_⟩
 cases hx with
 |tup l vs hs hx=>
  simp only[Am.nil1]at hr
  obtain⟨l',h1,h2⟩:=Option.map_eq_some_iff.1 hr
  subst h2
  obtain⟨g1,g2⟩:=q8 (X:=X) (w:=w') hun h1
  exact .tup _ _ (by rw[g1];exact hs) fun i hi=>g2 i _ (by rw[←g1];exact hi) (hx i (by rw[←g1];exact hi))
 |any=>simp[Am.nil1,A2]at hr
 |c x v hx=>exact kD hun (by simpa only[Am.nil1]using hr) (.c x v hx)
 |agg cs vs hs hx=>exact kD hun (by simpa only[Am.nil1]using hr) (.agg cs vs hs hx)
end
section
noncomputable def uS (k:Int) (n1 n2 n3:Nat) (nl1 nl2 nl3:Option Bool) (cap1 cap2 cap3:Option Nat) (a b:List Int) (c:List Bool) (vs:Int) (n:Nat) (v:List Int) (i j:Int):St:=
 aR iV.ntmps [(0,.c (.sl 0 0 n 1 none)),(1,.c (.fn 224 [.ptr 1 0 0 0,.ptr 2 0 0 0])),(5,.c (.int .i64 i)),(6,.c (.int .i64 j))]
  [.live (.ints .i64 v),.live (.cells [.int .i64 k,.view nl1 (.ints .i64 a) n1 1 cap1,.view nl2 (.ints .i64 b) n2 1 cap2,.view nl3 (.bools c) n3 1 cap3]),.live (.ints .i64 [vs])]
noncomputable def LK (k:Int) (n1 n2 n3:Nat) (nl1 nl2 nl3:Option Bool) (cap1 cap2 cap3:Option Nat) (a b:List Int) (c:List Bool) (vs:Int) (n:Nat) (v:List Int) (i:Int):St:=
 aR iV.ntmps [(0,.c (.sl 0 0 n 1 none)),(5,.c (.int .i64 i))]
  [.live (.ints .i64 v),.live (.cells [.int .i64 k,.view nl1 (.ints .i64 a) n1 1 cap1,.view nl2 (.ints .i64 b) n2 1 cap2,.view nl3 (.bools c) n3 1 cap3]),.live (.ints .i64 [vs])]
theorem SM (k:Int) (n1 n2 n3:Nat) (nl1 nl2 nl3:Option Bool) (cap1 cap2 cap3:Option Nat) (a b:List Int) (c:List Bool) (vs:Int) (n:Nat) (v:List Int) (i j:Int):aC 3 (a6 iV 0) (a8 iV 0) (aD tt (a9 T28) ([]) 3 100 (a5 0 (a0 iV)) (uS k n1 n2 n3 nl1 nl2 nl3 cap1 cap2 cap3 a b c vs n v i j) [(0,true),(0,true)])=
  some (.normal,(decide (j<(↑n:Int))&&(decide (0≤j)&&(decide (j<(↑n:Int))&&(decide (j.toNat<v.length)&&((decide (0≤v.getD j.toNat 0)&&(decide (v.getD j.toNat 0<(↑n2:Int))&&(decide ((v.getD j.toNat 0).toNat<b.length)&&true)))&&((!b.getD (v.getD j.toNat 0).toNat 0 !=vs)&&(decide (0≤i)&&(decide (i<(↑n:Int))&&((decide (i.toNat<v.length))&&true))))))))),[],uS k n1 n2 n3 nl1 nl2 nl3 cap1 cap2 cap3 a b c vs n (v.set i.toNat (v.getD j.toNat 0)) (IntKind.i64.wrap (i+1)) (IntKind.i64.wrap (j+1))):=by kernel_rfl
theorem SN (k:Int) (n1 n2 n3:Nat) (nl1 nl2 nl3:Option Bool) (cap1 cap2 cap3:Option Nat) (a b:List Int) (c:List Bool) (vs:Int) (n:Nat) (v:List Int) (i j:Int):aC 3 (a6 iV 0) (a8 iV 0) (aD tt (a9 T28) ([]) 3 100 (a5 0 (a0 iV)) (uS k n1 n2 n3 nl1 nl2 nl3 cap1 cap2 cap3 a b c vs n v i j) [(0,true),(0,false)])=
  some (.normal,(decide (j<(↑n:Int))&&(decide (0≤j)&&(decide (j<(↑n:Int))&&(decide (j.toNat<v.length)&&((decide (0≤v.getD j.toNat 0)&&(decide (v.getD j.toNat 0<(↑n2:Int))&&(decide ((v.getD j.toNat 0).toNat<b.length)&&true)))&&((!!b.getD (v.getD j.toNat 0).toNat 0 !=vs)&&true)))))),[],uS k n1 n2 n3 nl1 nl2 nl3 cap1 cap2 cap3 a b c vs n (v) (i) (IntKind.i64.wrap (j+1))):=by kernel_rfl
theorem SO (k:Int) (n1 n2 n3:Nat) (nl1 nl2 nl3:Option Bool) (cap1 cap2 cap3:Option Nat) (a b:List Int) (c:List Bool) (vs:Int) (n:Nat) (v:List Int) (i j:Int):aC 3 (a6 iV 0) (a8 iV 0) (aD tt (a9 T28) ([]) 3 100 (a5 0 (a0 iV)) (uS k n1 n2 n3 nl1 nl2 nl3 cap1 cap2 cap3 a b c vs n v i j) [(0,false)])=
  some (.exit 0,((!decide (j<(↑n:Int)))&&true),[],LK k n1 n2 n3 nl1 nl2 nl3 cap1 cap2 cap3 a b c vs n (v) (i)):=by kernel_rfl
theorem OU (k:Int) (n1 n2 n3:Nat) (nl1 nl2 nl3:Option Bool) (cap1 cap2 cap3:Option Nat) (a b:List Int) (c:List Bool) (vs:Int) (n:Nat) (v:List Int):aE tt (a9 T28) ([]) 100 iV [.c (.sl 0 0 n 1 none),.c (.fn 224 [.ptr 1 0 0 0,.ptr 2 0 0 0])] [.live (.ints .i64 v),.live (.cells [.int .i64 k,.view nl1 (.ints .i64 a) n1 1 cap1,.view nl2 (.ints .i64 b) n2 1 cap2,.view nl3 (.bools c) n3 1 cap3]),.live (.ints .i64 [vs])] [(0,true)]=
  some ⟨.c (.sl 0 0 n 1 none),[.live (.ints .i64 v),.live (.cells [.int .i64 k,.view nl1 (.ints .i64 a) n1 1 cap1,.view nl2 (.ints .i64 b) n2 1 cap2,.view nl3 (.bools c) n3 1 cap3]),.live (.ints .i64 [vs])],(decide (v.length≤274877906944)&&(decide (v.length=n)&&(d7 v b.length&&(decide (n2=b.length)&&((eD (fun x=>b.getD x.toNat 0 !=vs) v== -1)&&true))))),[]⟩:=by kernel_rfl
theorem V6 (k:Int) (n1 n2 n3:Nat) (nl1 nl2 nl3:Option Bool) (cap1 cap2 cap3:Option Nat) (a b:List Int) (c:List Bool) (vs:Int) (n:Nat) (v v':List Int) (i:Int):aE tt (a9 T28) ([(0,⟨a6 iV 0,uS k n1 n2 n3 nl1 nl2 nl3 cap1 cap2 cap3 a b c vs n v (eD (fun x=>b.getD x.toNat 0 !=vs) v) (IntKind.i64.wrap (eD (fun x=>b.getD x.toNat 0 !=vs) v+1)),.normal,LK k n1 n2 n3 nl1 nl2 nl3 cap1 cap2 cap3 a b c vs n v' i⟩)]) 100 iV [.c (.sl 0 0 n 1 none),.c (.fn 224 [.ptr 1 0 0 0,.ptr 2 0 0 0])] [.live (.ints .i64 v),.live (.cells [.int .i64 k,.view nl1 (.ints .i64 a) n1 1 cap1,.view nl2 (.ints .i64 b) n2 1 cap2,.view nl3 (.bools c) n3 1 cap3]),.live (.ints .i64 [vs])] [(0,false)]=
  some ⟨.c (.sl 0 0 i.toNat 1 none),[.live (.ints .i64 (List.take i.toNat v'++(List.replicate (n-i.toNat) 0++List.drop (i.toNat+(n-i.toNat)) v'))),.live (.cells [.int .i64 k,.view nl1 (.ints .i64 a) n1 1 cap1,.view nl2 (.ints .i64 b) n2 1 cap2,.view nl3 (.bools c) n3 1 cap3]),.live (.ints .i64 [vs])],(decide (v.length≤274877906944)&&(decide (v.length=n)&&(d7 v b.length&&(decide (n2=b.length)&&((!eD (fun x=>b.getD x.toNat 0 !=vs) v== -1)&&(decide (0≤i)&&(decide (i≤(↑n:Int))&&(decide (i.toNat+(n-i.toNat)≤v'.length)&&(decide (0≤i)&&((decide (i≤(↑n:Int)))&&true)))))))))),[uS k n1 n2 n3 nl1 nl2 nl3 cap1 cap2 cap3 a b c vs n v (eD (fun x=>b.getD x.toNat 0 !=vs) v) (IntKind.i64.wrap (eD (fun x=>b.getD x.toNat 0 !=vs) v+1))=uS k n1 n2 n3 nl1 nl2 nl3 cap1 cap2 cap3 a b c vs n v (eD (fun x=>b.getD x.toNat 0 !=vs) v) (IntKind.i64.wrap (eD (fun x=>b.getD x.toNat 0 !=vs) v+1))]⟩:=by kernel_rfl
theorem mA {q:Int→Bool} {v:List Int}: ∀ {f i j:Nat},dM q v f i=some j→i≤j∧j<i+f∧q (v.getD j 0)=true∧ ∀k,i≤k→k<j→q (v.getD k 0)=false
 |0,i,j,h=>by simp[dM]at h
 |f+1,i,j,h=>by
  simp only[dM]at h
  cases hq:q (v.getD i 0)with
  |true=>
   rw[hq,cond_true]at h
   injection h with h;subst h
   exact⟨Nat.le_refl _,by omega,hq,fun k h1 h2=>by omega⟩
  |false=>
   rw[hq,cond_false]at h
   obtain⟨h1,h2,h3,h4⟩:=mA h
   refine⟨by omega,by omega,h3,fun k h5 h6=> ?_⟩
   by_cases e:k=i
   ·subst e;exact hq
   ·exact h4 k (by omega) h6
theorem m9 {q:Int→Bool} {v:List Int}: ∀ {f i:Nat},dM q v f i=none→ ∀k,i≤k→k<i+f→q (v.getD k 0)=false
 |0,i,h,k,h1,h2=>by omega
 |f+1,i,h,k,h1,h2=>by
  simp only[dM]at h
  cases hq:q (v.getD i 0)with
  |true=>rw[hq,cond_true]at h;cases h
  |false=>
   rw[hq,cond_false]at h
   by_cases e:k=i
   ·subst e;exact hq
   ·exact m9 h k (by omega) (by omega)
theorem jH {q:Int→Bool} {v:List Int}: ∀(n:Nat),n≤v.length→(∀k,k<n→q (v.getD k 0)=false)→(v.take n).filter (fun x=> !q x)=v.take n:=by
 intro n hn h
 refine List.filter_eq_self.2 fun x hx=> ?_
 obtain⟨k,hk⟩:=List.getElem?_of_mem hx
 rw[List.getElem?_take]at hk
 split at hk
 ·rename_i h1
  have:=h k h1
  rw[List.getD_eq_getElem?_getD,hk]at this
  simpa using this
 ·cases hk
theorem iP {v:List Int} {n:Nat} (h:n<v.length):v.take (n+1)=v.take n++[v.getD n 0]:=by
 rw[List.take_add_one,List.getD_eq_getElem?_getD,List.getElem?_eq_getElem h];rfl
def zO (q:Int→Bool) (j0:Nat) (t:Nat) (s:List Int×Nat):List Int×Nat:=bif q (s.1.getD (j0+t) 0)then s else(s.1.set s.2 (s.1.getD (j0+t) 0),s.2+1)
def GG (q:Int→Bool) (v:List Int) (j0:Nat) (t:Nat) (s:List Int×Nat):Prop:=
 s.1.length=v.length∧s.2<j0+t∧(∀k,j0+t≤k→s.1.getD k 0=v.getD k 0)∧s.1.take s.2=(v.take (j0+t)).filter (fun x=> !q x)
theorem sH {q:Int→Bool} {v:List Int} {j0 t:Nat} {s:List Int×Nat} (h:GG q v j0 t s) (ht:j0+t<v.length):GG q v j0 (t+1) (zO q j0 t s):=by
 obtain⟨h1,h2,h3,h4⟩:=h
 have hx:=h3 (j0+t) (Nat.le_refl _)
 unfold zO
 have ht':v.take (j0+(t+1))=v.take (j0+t)++[v.getD (j0+t) 0]:=iP ht
 cases hq:q (s.1.getD (j0+t) 0)with
 |true=>
  rw[cond_true]
  refine⟨h1,by omega,fun k hk=>h3 k (by omega), ?_⟩
  rw[ht',List.filter_append,h4]
  rw[hx]at hq
  rw[List.filter_cons,hq];simp
 |false=>
  rw[cond_false]
  refine⟨by simp[h1],by dsimp only;omega,fun k hk=> ?_, ?_⟩
  ·dsimp only
   rw[bD,if_neg (by omega)]
   exact h3 k (by omega)
  ·dsimp only
   rw[iP (by rw[List.length_set];omega),List.take_set,List.set_eq_of_length_le (by rw[List.length_take];omega),bD,if_pos ⟨rfl,by omega⟩,h4,ht',List.filter_append]
   rw[hx]at hq
   rw[hx,List.filter_cons,hq];simp
theorem vO {q:Int→Bool} {v:List Int} {i:Nat} (h:eU q v=some i):i<v.length∧GG q v (i+1) 0 (v,i):=by
 obtain⟨h1,h2,h3,h4⟩:=mA h
 have hi:i<v.length:=by omega
 refine⟨hi,rfl,by dsimp only;omega,fun k _=>rfl, ?_⟩
 dsimp only
 rw[Nat.add_zero,iP hi,List.filter_append,jH i (by omega) (fun k hk=>h4 k (by omega) hk)]
 simp only[List.filter_cons,h3,List.filter_nil,Bool.not_true,Bool.false_eq_true,if_false,List.append_nil]
theorem a61 (k:Int) (n1 n2 n3:Nat) (nl1 nl2 nl3:Option Bool) (cap1 cap2 cap3:Option Nat) (a b:List Int) (c:List Bool) (vs:Int) (v:List Int) (i0:Nat) (hl:v.length≤274877906944) (hp:d7 v b.length=true) (h2:n2=b.length) (h0:eU (fun x=>b.getD x.toNat 0 !=vs) v=some i0):
  aN none Tryz.prog 3 (.block 0 (.loop (a5 0 (a0 iV)))) (uS k n1 n2 n3 nl1 nl2 nl3 cap1 cap2 cap3 a b c vs v.length v i0 (i0+1:Nat)) fun e t=>e=.normal∧
   t=LK k n1 n2 n3 nl1 nl2 nl3 cap1 cap2 cap3 a b c vs v.length (bH (zO (fun x=>b.getD x.toNat 0 !=vs) (i0+1)) (v.length-(i0+1)) 0 (v,i0)).1 (bH (zO (fun x=>b.getD x.toNat 0 !=vs) (i0+1)) (v.length-(i0+1)) 0 (v,i0)).2:=by
 obtain⟨g1,g2⟩:=vO h0
 refine aN.count (ro:=none) hT t28 bF (v.length-(i0+1)) (GG (fun x=>b.getD x.toNat 0 !=vs) v (i0+1)) (fun t s=>uS k n1 n2 n3 nl1 nl2 nl3 cap1 cap2 cap3 a b c vs v.length s.1 s.2 (i0+1+t:Nat)) (fun s=>LK k n1 n2 n3 nl1 nl2 nl3 cap1 cap2 cap3 a b c vs v.length s.1 s.2) (zO (fun x=>b.getD x.toNat 0 !=vs) (i0+1)) (a6 iV 0) (a8 iV 0)
  (fun _ _=>[]) (fun _ _ _ _=>aK.nil) (fun t s ht h=>⟨sH h (by omega), ?_⟩) (fun s h=> ?_) (v,i0) g2
 ·have hn:=sH h (by omega)
  obtain⟨d1,d2,d3,d4⟩:=h
  have hpl:=gL hp (i:=i0+1+t) (by omega)
  have hx:=d3 (i0+1+t) (Nat.le_refl _)
  unfold zO
  cases hq:b.getD (s.1.getD (i0+1+t) 0).toNat 0 !=vs with
  |true=>
   have e:=SN k n1 n2 n3 nl1 nl2 nl3 cap1 cap2 cap3 a b c vs v.length s.1 s.2 (i0+1+t:Nat)
   rw[aB (by omega) (by omega),Int.toNat_natCast]at e
   dsimp only
   rw[hq]
   refine⟨_,_,⟨_,_,e, ?_,by simp⟩⟩
   simp only[hq,Bool.not_true,Bool.not_false,Bool.true_and,rpS,Bool.and_true,Bool.and_eq_true,decide_eq_true_eq]
   omega
  |false=>
   have e:=SM k n1 n2 n3 nl1 nl2 nl3 cap1 cap2 cap3 a b c vs v.length s.1 s.2 (i0+1+t:Nat)
   rw[aB (i:=((i0+1+t:Nat):Int)+1) (by omega) (by omega),aB (i:=(s.2:Int)+1) (by omega) (by omega),Int.toNat_natCast,Int.toNat_natCast]at e
   dsimp only
   rw[hq]
   refine⟨_,_,⟨_,_,e, ?_,by simp⟩⟩
   simp only[hq,Bool.not_false,Bool.true_and,rpS,Bool.and_true,Bool.and_eq_true,decide_eq_true_eq]
   omega
 ·rw[show i0+1+(v.length-(i0+1))=v.length from by omega]
  exact⟨_,_,⟨_,_,SO k n1 n2 n3 nl1 nl2 nl3 cap1 cap2 cap3 a b c vs v.length s.1 s.2 v.length,by simp,by simp⟩⟩
def GL:aM:=fun args h=>
 match args,h with
 |[.c (.sl 0 0 n 1 none),.c (.fn 224 [.ptr 1 0 0 0,.ptr 2 0 0 0])],[.live (.ints .i64 v),.live (.cells [.int .i64 k,.view nl1 (.ints .i64 a) n1 1 cap1,.view nl2 (.ints .i64 b) n2 1 cap2,.view nl3 (.bools c) n3 1 cap3]),.live (.ints .i64 [vs])]=>
  some (.c (.sl 0 0 (v.filter fun x=> !(b.getD x.toNat 0 !=vs)).length 1 none),[.live (.ints .i64 (v.filter fun x=> !(b.getD x.toNat 0 !=vs))),.live (.cells [.int .i64 k,.view nl1 (.ints .i64 a) n1 1 cap1,.view nl2 (.ints .i64 b) n2 1 cap2,.view nl3 (.bools c) n3 1 cap3]),.live (.ints .i64 [vs])],[decide (v.length≤274877906944),decide (v.length=n),d7 v b.length,decide (n2=b.length)])
 |_,_=>none
theorem a7K:aQ Tryz.prog 223 GL:=by
 intro args h res h' o he ho
 unfold GL at he
 split at he
 case h_2=>cases he
 rename_i n v k nl1 a n1 cap1 nl2 b n2 cap2 nl3 c n3 cap3 vs
 simp only[Option.some.injEq,Prod.mk.injEq]at he
 obtain⟨rfl,rfl,rfl⟩:=he
 simp only[List.mem_cons,List.not_mem_nil,or_false,forall_eq_or_imp,forall_eq,decide_eq_true_eq]at ho
 obtain⟨o1,o2,o3,o4⟩:=ho
 subst o2
 cases hx:eU (fun x=>b.getD x.toNat 0 !=vs) v with
 |none=>
  have hL:eD (fun x=>b.getD x.toNat 0 !=vs) v= -1:=by unfold eD;rw[hx]
  have hf:(v.filter fun x=> !(b.getD x.toNat 0 !=vs))=v:=by
   have:=jH (q:=(fun x=>b.getD x.toNat 0 !=vs)) (v:=v) v.length (Nat.le_refl _) (fun k hk=>m9 hx k (by omega) (by omega))
   rw[List.take_length]at this;exact this
  rw[hf]
  exact mo (fn:=iV) t28 (OU k n1 n2 n3 nl1 nl2 nl3 cap1 cap2 cap3 a b c vs v.length v) (by rw[hL];simp[o1,o3,o4])
 |some i0=>
  have hL:eD (fun x=>b.getD x.toNat 0 !=vs) v=i0:=by unfold eD;rw[hx]
  obtain⟨g1,g2⟩:=vO hx
  have g:=a61 k n1 n2 n3 nl1 nl2 nl3 cap1 cap2 cap3 a b c vs v i0 o1 o3 o4 hx
  have fin:=aY (step:=zO (fun x=>b.getD x.toNat 0 !=vs) (i0+1)) (GG (fun x=>b.getD x.toNat 0 !=vs) v (i0+1)) (v.length-(i0+1)) (v,i0) g2 fun t s ht h=>sH h (by omega)
  generalize bH (zO (fun x=>b.getD x.toNat 0 !=vs) (i0+1)) (v.length-(i0+1)) 0 (v,i0)=s at g fin
  obtain⟨d1,d2,d3,d4⟩:=fin
  rw[show i0+1+(v.length-(i0+1))=v.length from by omega]at d2 d4
  rw[List.take_length]at d4
  have hlen:(v.filter fun x=> !(b.getD x.toNat 0 !=vs)).length=s.2:=by rw[←d4,List.length_take];omega
  have e:=V6 k n1 n2 n3 nl1 nl2 nl3 cap1 cap2 cap3 a b c vs v.length v s.1 s.2
  rw[hL]at e
  have hw:IntKind.i64.wrap ((i0:Int)+1)=(i0+1:Nat):=by rw[aB (by omega) (by omega)];rfl
  rw[hw,Int.toNat_natCast]at e
  have mm:=mo (f:=223) (fn:=iV) t28 e (by
    have h3:(((i0:Int))== -1)=false:=by
     rw[beq_eq_false_iff_ne];omega
    simp only[h3,o1,o3,o4,Bool.not_false,Bool.true_and,rpS,Bool.and_true,Bool.and_eq_true,decide_eq_true_eq,true_and,and_true]
    omega) (hlc:=(fun cc hc=>aK.cons (c:=cc) (by cases hc;kernel_rfl) (by cases hc;exact g) aK.nil))
  rw[hlen]
  refine mm.slots ⟨?_,fF.refl _,fF.refl _,trivial⟩
  have h6:(List.take s.2 s.1++(List.replicate (v.length-s.2) 0++List.drop (s.2+(v.length-s.2)) s.1)).take s.2=v.filter fun x=> !(b.getD x.toNat 0 !=vs):=by
   rw[List.take_append_of_le_length (by rw[List.length_take];omega),List.take_take,Nat.min_self];exact d4
  rw[←h6]
  exact fF.take _ _ _
end
section
noncomputable def T29:List aZ:=[⟨223,[0,1],GL⟩]++T28
theorem e29:a7 Tryz.prog T29:=by
 refine a7.append ?_ e28
 intro e he
 simp only[List.mem_cons,List.not_mem_nil,or_false]at he
 subst he;exact a7K
theorem t29:bK Tryz.prog (a9 T29):=aO e29
theorem UP (k:Int) (a b:List Int) (c:List Bool) (vs:Int):aE tt (a9 T29) ([]) 100 Tryz.f184 [.agg [.int .i64 k,.view none (.ints .i64 a) a.length 1 none,.view none (.ints .i64 b) b.length 1 none,.view none (.bools c) c.length 1 none],.c (.int .i64 vs)] [] []=
  some ⟨.c (.sl 0 0 (List.filter (fun x=> !b.getD x.toNat 0 !=vs) (flg c)).length 1 none),[.live (.ints .i64 (List.filter (fun x=> !b.getD x.toNat 0 !=vs) (flg c)))],(decide (c.length≤274877906944)&&(decide ((flg c).length≤274877906944)&&(decide ((flg c).length=(flg c).length)&&(d7 (flg c) b.length&&((decide (b.length=b.length))&&true))))),[]⟩:=by kernel_rfl
def ofL (b:List Int) (c:List Bool) (vs:Int):List Int:=(flg c).filter fun x=> !(b.getD x.toNat 0 !=vs)
def PS:aM:=fun args h=>
 match args,h with
 |[.agg [.int .i64 k,.view _ (.ints .i64 a) n1 1 _,.view _ (.ints .i64 b) n2 1 _,.view _ (.bools c) n3 1 _],.c (.int .i64 vs)],[]=>
  some (.c (.sl 0 0 (ofL b c vs).length 1 none),[.live (.ints .i64 (ofL b c vs))],[decide (c.length≤274877906944),decide (b.length=c.length)])
 |_,_=>none
theorem n6 (bs:List Bool) (N:Nat): ∀k i,i+k≤N→d7 (eY bs k i) N=true
 |0,_,_=>rfl
 |k+1,i,h=>by
  have:=n6 bs N k (i+1) (by omega)
  simp only[eY]
  split
  ·simp only[d7,List.all_cons,Bool.and_eq_true,rpS,decide_eq_true_eq]
   exact⟨by omega,this⟩
  ·exact this
theorem m7 (bs:List Bool):d7 (flg bs) bs.length=true:=n6 bs bs.length _ _ (by omega)
theorem n7 (bs:List Bool):(flg bs).length≤bs.length:=vS bs _ _
theorem a6X:aS Tryz.prog 184 PS:=by
 intro args h res h' o hnorm he ho
 unfold PS at he
 split at he
 case h_2=>cases he
 rename_i k nl1 a n1 cap1 nl2 b n2 cap2 nl3 c n3 cap3 vs
 simp only[Option.some.injEq,Prod.mk.injEq]at he
 obtain⟨rfl,rfl,rfl⟩:=he
 simp only[List.mem_cons,List.not_mem_nil,or_false,forall_eq_or_imp,forall_eq,decide_eq_true_eq]at ho
 obtain⟨o1,o2⟩:=ho
 simp only[b8,AV.norm,bA,aF.norm,Con.size,List.cons.injEq,AV.c.injEq,AV.agg.injEq,aF.view.injEq,aL,true_and,and_true]at hnorm
 obtain⟨⟨rfl,rfl,rfl⟩,⟨rfl,rfl,rfl⟩,rfl,rfl,rfl⟩:=hnorm
 have h1:=n7 c
 exact mo t29 (UP k a b c vs) (by simp[o1,o2,m7];omega)
theorem VH (a:Int):aE tt (a9 T29) ([]) 100 Tryz.f291 [.c (.int .i64 a)] [] []=
  some ⟨.c (.bool (a !=a)),[],true,[]⟩:=by kernel_rfl
def GU:aM:=fun args h=>
 match args,h with
 |[.c (.int .i64 a)],[]=>
  some (.c (.bool false),[],[])
 |_,_=>none
theorem a8F:aQ Tryz.prog 291 GU:=by
 intro args h res h' o he ho
 unfold GU at he
 split at he
 case h_2=>cases he
 rename_i a
 simp only[Option.some.injEq,Prod.mk.injEq]at he
 obtain⟨rfl,rfl,rfl⟩:=he
 have e:=VH a
 rw[bne_self_eq_false]at e
 exact mo t29 e rfl
noncomputable def T30:List aZ:=[⟨184,[],nm PS⟩,⟨291,[],GU⟩]++T29
theorem e30:a7 Tryz.prog T30:=by
 refine a7.append ?_ e29
 intro e he
 simp only[List.mem_cons,List.not_mem_nil,or_false]at he
 rcases he with rfl|rfl
 ·exact a6X.ok
 ·exact a8F
theorem t30:bK Tryz.prog (a9 T30):=aO e30
theorem VF (a b:Int):aE tt (a9 T30) ([]) 100 Tryz.f277 [.c (.int .i64 a),.c (.int .i64 b)] [] []=
  some ⟨.c (.bool (decide (a<b))),[],true,[]⟩:=by kernel_rfl
def wX:aM:=fun args h=>
 match args,h with
 |[.c (.int .i64 a),.c (.int .i64 b)],[]=>
  some (.c (.bool (decide (a<b))),[],[])
 |_,_=>none
theorem a86:aQ Tryz.prog 277 wX:=by
 intro args h res h' o he ho
 unfold wX at he
 split at he
 case h_2=>cases he
 rename_i a b
 simp only[Option.some.injEq,Prod.mk.injEq]at he
 obtain⟨rfl,rfl,rfl⟩:=he
 exact mo t30 (VF a b) rfl
noncomputable def T31:List aZ:=[⟨277,[],wX⟩]++T30
theorem e31:a7 Tryz.prog T31:=by
 refine a7.append ?_ e30
 intro e he
 simp only[List.mem_cons,List.not_mem_nil,or_false]at he
 subst he;exact a86
theorem t31:bK Tryz.prog (a9 T31):=aO e31
noncomputable abbrev f166:=Tryz.f271
noncomputable def lV (n:Nat) (v:List Int) (i:Int):St:=
 aR f166.ntmps [(0,.c (.sl 0 0 n 1 none)),(1,.c (.int .i64 0)),(2,.c (.int .i64 n)),(6,.c (.int .i64 i))] [.live (.ints .i64 v)]
noncomputable def LP (v:List Int):St:=aR f166.ntmps [] [.live (.ints .i64 v)]
noncomputable def uU (n:Nat) (v:List Int) (i j:Int):St:=
 aR f166.ntmps [(0,.c (.sl 0 0 n 1 none)),(1,.c (.int .i64 0)),(2,.c (.int .i64 n)),(6,.c (.int .i64 i)),(7,.c (.int .i64 j))] [.live (.ints .i64 v)]
theorem NV (n:Nat) (v:List Int) (i j:Int):aC 1 (a6 f166 2) (a8 f166 2) (aD tt (a9 T31) ([]) 1 100 (a5 2 (a0 f166)) (uU n v i j) [(0,true),(0,true)])=
  some (.normal,(rp3 (decide (j>0)) (decide (0≤j)&&(decide (j<(↑n:Int))&&(decide (j>0)&&(decide (j.toNat<v.length)&&(rp4 (decide (j>0)) (decide (0≤IntKind.i64.wrap (j-1))&&(decide (IntKind.i64.wrap (j-1)<(↑n:Int))&&(decide (j>0)&&(decide ((IntKind.i64.wrap (j-1)).toNat<v.length)&&(decide (j>0)&&((bif decide (j>0)then decide (v.getD j.toNat 0<v.getD (IntKind.i64.wrap (j-1)).toNat 0)else false)&&(decide (0≤IntKind.i64.wrap (j-1))&&(decide (IntKind.i64.wrap (j-1)<(↑n:Int))&&(decide ((IntKind.i64.wrap (j-1)).toNat<v.length)&&(decide (0≤j)&&(decide (j<(↑n:Int))&&(decide (j.toNat<v.length)&&(decide (0≤j)&&(decide (j<(↑n:Int))&&(decide (j.toNat<v.length)&&(decide (0≤IntKind.i64.wrap (j-1))&&(decide (IntKind.i64.wrap (j-1)<(↑n:Int))&&((decide ((IntKind.i64.wrap (j-1)).toNat<(v.set j.toNat (v.getD (IntKind.i64.wrap (j-1)).toNat 0)).length))&&true)))))))))))))))))))))))),[],uU n ((v.set j.toNat (v.getD (IntKind.i64.wrap (j-1)).toNat 0)).set (IntKind.i64.wrap (j-1)).toNat (v.getD j.toNat 0)) i (IntKind.i64.wrap (j-1))):=by kernel_rfl
theorem NW (n:Nat) (v:List Int) (i j:Int):aC 1 (a6 f166 2) (a8 f166 2) (aD tt (a9 T31) ([]) 1 100 (a5 2 (a0 f166)) (uU n v i j) [(0,true),(0,false)])=
  some (.exit 2,(rp3 (decide (j>0)) (decide (0≤j)&&(decide (j<(↑n:Int))&&(decide (j>0)&&(decide (j.toNat<v.length)&&(rp4 (decide (j>0)) (decide (0≤IntKind.i64.wrap (j-1))&&(decide (IntKind.i64.wrap (j-1)<(↑n:Int))&&(decide (j>0)&&(decide ((IntKind.i64.wrap (j-1)).toNat<v.length)&&(decide (j>0)&&((!bif decide (j>0)then decide (v.getD j.toNat 0<v.getD (IntKind.i64.wrap (j-1)).toNat 0)else false)&&true)))))))))))),[],lV n (v) i):=by kernel_rfl
theorem NX (n:Nat) (v:List Int) (i j:Int):aC 1 (a6 f166 2) (a8 f166 2) (aD tt (a9 T31) ([]) 1 100 (a5 2 (a0 f166)) (uU n v i j) [(0,false)])=
  some (.exit 2,((!decide (j>0))&&(rp9 (!decide (j>0)) ((!decide (j>0))&&true))),[],lV n (v) i):=by kernel_rfl
theorem TF (n:Nat) (v v':List Int) (i:Int):aC 1 (a6 f166 0) (a8 f166 0) (aD tt (a9 T31) ([(2,⟨a6 f166 2,uU n v i i,.normal,lV n v' i⟩)]) 1 100 (a5 0 (a0 f166)) (lV n v i) [(0,true)])=
  some (.normal,((decide (i<(↑n:Int)))&&true),[uU n v i i=uU n v i i],lV n (v') (IntKind.i64.wrap (i+1))):=by kernel_rfl
theorem TG (n:Nat) (v v':List Int) (i:Int) (lcv:List (Nat×LC)):aC 1 (a6 f166 0) (a8 f166 0) (aD tt (a9 T31) (lcv) 1 100 (a5 0 (a0 f166)) (lV n v i) [(0,false)])=
  some (.exit 0,((!decide (i<(↑n:Int)))&&true),[],LP (v)):=by kernel_rfl
end
section
def swp (v:List Int) (j:Nat):List Int:=(v.set j (v.getD (j-1) 0)).set (j-1) (v.getD j 0)
def oR (j0 t:Nat) (v:List Int):List Int⊕List Int:=bif decide (v.getD (j0-t) 0<v.getD (j0-t-1) 0)then .inl (swp v (j0-t))else .inr v
def kA (j0:Nat) (v:List Int):List Int:=match cD (oR j0) j0 0 v with|.inl v=>v|.inr v=>v
def cV (v:List Int):List Int:=bH (fun t v=>kA (t+1) v) (v.length-1) 0 v
theorem jA (v:List Int) (j:Nat):(swp v j).length=v.length:=by simp[swp]
theorem gO {β γ:Type} {step:Nat→β→β⊕γ} (Inv:Nat→β→Prop) (Q:γ→Prop): ∀(f i:Nat) (b:β),Inv i b→
  (∀k b,i≤k→k<i+f→Inv k b→(∀b',step k b=.inl b'→Inv (k+1) b')∧ ∀c,step k b=.inr c→Q c)→match cD step f i b with|.inl b'=>Inv (i+f) b'|.inr c=>Q c
 |0,i,b,h,_=>h
 |f+1,i,b,h,hs=>by
  simp only[cD]
  have h0:=hs i b (Nat.le_refl _) (by omega) h
  cases hb:step i b with
  |inl b'=>
   have:=gO (step:=step) Inv Q f (i+1) b' (h0.1 b' hb) (fun k b h1 h2=>hs k b (by omega) (by omega))
   rw[show i+(f+1)=i+1+f from by omega]
   exact this
  |inr c=>exact h0.2 c hb
theorem zW (j:Nat) (v:List Int):(kA j v).length=v.length:=by
 have:=gO (step:=oR j) (fun _ b=>b.length=v.length) (fun c=>c.length=v.length) j 0 v rfl (fun k b _ _ hb=>by
  unfold oR
  cases decide (b.getD (j-k) 0<b.getD (j-k-1) 0)
  ·exact⟨fun b' h=>by simp at h,fun c h=>by simp at h;rw[←h];exact hb⟩
  ·exact⟨fun b' h=>by simp at h;rw[←h,jA];exact hb,fun c h=>by simp at h⟩)
 unfold kA
 revert this
 cases cD (oR j) j 0 v<;>exact fun h=>h
theorem pH (v:List Int):(cV v).length=v.length:=aY (step:=fun t v=>kA (t+1) v) (fun _ b=>b.length=v.length) _ v rfl fun k b _ h=>by rw[zW];exact h
theorem Y9 (v:List Int) (i j0:Nat) (hl:v.length≤274877906944) (hj:j0<v.length):
  aN none Tryz.prog 1 (.block 2 (.loop (a5 2 (a0 f166)))) (uU v.length v i j0) fun e t=>e=.normal∧t=lV v.length (kA j0 v) i:=by
 have key:=aN.countE (ro:=none) hT t31 bF (m:=1) (id:=2) (body:=a5 2 (a0 f166)) j0 (fun _ b=>b.length=v.length) (fun t b=>uU v.length b i (j0-t:Nat)) (fun b=>lV v.length b i) (fun b=>lV v.length b i) .normal (.inl rfl)
  (oR j0) (a6 f166 2) (a8 f166 2) (fun _ _=>[]) (fun _ _ _ _=>aK.nil) (fun t b ht hb=> ?_) (fun b hb=> ?_) v rfl
 ·refine aN.mono key fun e t h=> ?_
  unfold kA
  revert h
  cases cD (oR j0) j0 0 v<;>exact fun h=>h
 ·unfold oR
  have hw:IntKind.i64.wrap (((j0-t:Nat):Int)-1)=((j0-t-1:Nat):Int):=by rw[cR (by omega) (by omega)];omega
  cases hq:decide (b.getD (j0-t) 0<b.getD (j0-t-1) 0)with
  |true=>
   refine .inl ⟨swp b (j0-t),rfl,by rw[jA];exact hb, ?_⟩
   have e:=NV v.length b i (j0-t:Nat)
   rw[hw,Int.toNat_natCast,Int.toNat_natCast]at e
   rw[show j0-(t+1)=j0-t-1 from by omega]
   refine⟨_,_,⟨_,_,e, ?_,by simp⟩⟩
   have h0:decide (((j0-t:Nat):Int)>0)=true:=decide_eq_true (by omega)
   simp only[h0,hq,cond_true,List.length_set,Bool.true_and,rpS,Bool.and_true,Bool.and_eq_true,decide_eq_true_eq]
   omega
  |false=>
   refine .inr ⟨b,rfl, ?_⟩
   have e:=NW v.length b i (j0-t:Nat)
   rw[hw,Int.toNat_natCast,Int.toNat_natCast]at e
   rw[if_pos rfl]
   refine⟨_,_,⟨_,_,e, ?_,by simp⟩⟩
   have h0:decide (((j0-t:Nat):Int)>0)=true:=decide_eq_true (by omega)
   simp only[h0,hq,cond_true,Bool.not_false,Bool.true_and,rpS,Bool.and_true,Bool.and_eq_true,decide_eq_true_eq]
   omega
 ·rw[Nat.sub_self]
  have e:=NX v.length b i (0:Nat)
  exact⟨_,_,⟨_,_,e,by simp,by simp⟩⟩
theorem MA:a5 2 (a5 0 (a0 f166))=a5 2 (a0 f166):=by kernel_rfl
theorem a69 (v:List Int) (hl:v.length≤274877906944):
  aN none Tryz.prog 1 (.block 0 (.loop (a5 0 (a0 f166)))) (lV v.length v 1) fun e t=>e=.normal∧t=LP (cV v):=by
 refine aN.count (ro:=none) hT t31 bF (v.length-1) (fun _ b=>b.length=v.length) (fun t b=>lV v.length b (1+t:Nat)) (fun b=>LP b) (fun t b=>kA (t+1) b) (a6 f166 0) (a8 f166 0)
  (fun t b=>[(2,⟨a6 f166 2,uU v.length b (1+t:Nat) (1+t:Nat),.normal,lV v.length (kA (t+1) b) (1+t:Nat)⟩)]) (fun t b ht hb=> ?_) (fun t b ht hb=>⟨by rw[zW];exact hb, ?_⟩) (fun b hb=> ?_) v rfl
 ·refine aK.cons (by kernel_rfl) ?_ aK.nil
  rw[MA]
  have:=Y9 b (1+t) (1+t) (by omega) (by omega)
  rw[hb]at this
  rw[Nat.add_comm 1 t]at this⊢
  exact this
 ·have e:=TF v.length b (kA (t+1) b) (1+t:Nat)
  rw[aB (by omega) (by omega)]at e
  refine⟨_,_,⟨_,_,e, ?_,by simp⟩⟩
  simp only[Bool.and_true,rpS,decide_eq_true_eq]
  omega
 ·have e:=TG v.length b [] (1+(v.length-1):Nat) []
  refine⟨_,_,⟨_,_,e, ?_,by simp⟩⟩
  simp only[Bool.and_true,rpS,Bool.not_eq_true',decide_eq_false_iff_not]
  omega
theorem VE (v:List Int):aE tt (a9 T31) ([(0,⟨a6 f166 0,lV v.length v 1,.normal,LP (cV v)⟩)]) 100 f166 [.c (.sl 0 0 v.length 1 none),.c (.int .i64 0),.c (.int .i64 v.length)] [.live (.ints .i64 v)] []=
  some ⟨.tup [],[.live (.ints .i64 (cV v))],true,[lV v.length v 1=lV v.length v 1]⟩:=by kernel_rfl
def GS:aM:=fun args h=>
 match args,h with
 |[.c (.sl 0 0 n 1 none),.c (.int .i64 0),.c (.int .i64 n2)],[.live (.ints .i64 v)]=>
  some (.tup [],[.live (.ints .i64 (cV v))],[decide (v.length≤274877906944),decide (n=v.length),decide (n2=(v.length:Int))])
 |_,_=>none
theorem a85:aQ Tryz.prog 271 GS:=by
 intro args h res h' o he ho
 unfold GS at he
 split at he
 case h_2=>cases he
 rename_i n n2 v
 simp only[Option.some.injEq,Prod.mk.injEq]at he
 obtain⟨rfl,rfl,rfl⟩:=he
 simp only[List.mem_cons,List.not_mem_nil,or_false,forall_eq_or_imp,forall_eq,decide_eq_true_eq]at ho
 obtain⟨o1,o2,o3⟩:=ho
 subst o2 o3
 exact mo (fn:=f166) t31 (VE v) (by simp) (hlc:=(fun cc hc=>aK.cons (c:=cc) (by cases hc;kernel_rfl) (by cases hc;exact a69 v o1) aK.nil))
noncomputable def T32:List aZ:=[⟨271,[0],GS⟩]++T31
theorem e32:a7 Tryz.prog T32:=by
 refine a7.append ?_ e31
 intro e he
 simp only[List.mem_cons,List.not_mem_nil,or_false]at he
 subst he;exact a85
theorem t32:bK Tryz.prog (a9 T32):=aO e32
theorem V7 (v:List Int) (lim:Int):aE tt (a9 T32) ([]) 100 Tryz.f248 [.c (.sl 0 0 v.length 1 none),.c (.int .i64 0),.c (.int .i64 v.length),.c (.int .i64 lim)] [.live (.ints .i64 v)] [(0,true)]=
  some ⟨.tup [],[.live (.ints .i64 (cV v))],(decide (IntKind.i64.wrap ((↑v.length:Int)-0)≤12)&&(decide (v.length≤274877906944)&&(decide (v.length=v.length)&&((decide ((↑v.length:Int)=(↑v.length:Int)))&&true)))),[]⟩:=by kernel_rfl
def GV:aM:=fun args h=>
 match args,h with
 |[.c (.sl 0 0 n 1 none),.c (.int .i64 0),.c (.int .i64 n2),.c (.int .i64 lim)],[.live (.ints .i64 v)]=>
  some (.tup [],[.live (.ints .i64 (cV v))],[decide (v.length≤12),decide (n=v.length),decide (n2=(v.length:Int))])
 |_,_=>none
theorem a7L:aQ Tryz.prog 248 GV:=by
 intro args h res h' o he ho
 unfold GV at he
 split at he
 case h_2=>cases he
 rename_i n n2 lim v
 simp only[Option.some.injEq,Prod.mk.injEq]at he
 obtain⟨rfl,rfl,rfl⟩:=he
 simp only[List.mem_cons,List.not_mem_nil,or_false,forall_eq_or_imp,forall_eq,decide_eq_true_eq]at ho
 obtain⟨o1,o2,o3⟩:=ho
 subst o2 o3
 exact mo t32 (V7 v lim) (by
  rw[Int.sub_zero,aB (by omega) (by omega)]
  simp;omega)
def YB (n:Int):Int:=[0,1,2,2,3,3,3,3,4].getD n.toNat 0
def wW:aM:=fun args h=>
 match args,h with
 |[.c (.int .u64 n)],[]=>
  some (.c (.int .i64 (YB n)),[],[bet n 0 8])
 |_,_=>none
theorem a87:aQ Tryz.prog 281 wW:=by
 intro args h res h' o he ho
 unfold wW at he
 split at he
 case h_2=>cases he
 rename_i n
 simp only[Option.some.injEq,Prod.mk.injEq]at he
 obtain⟨rfl,rfl,rfl⟩:=he
 simp only[List.mem_cons,List.not_mem_nil,or_false,forall_eq_or_imp,forall_eq,decide_eq_true_eq]at ho
 have o1:=ho
 have hb:=bN.1 o1
 have all:cN (fun k=>k9 (aE tt (a9 T32) [] 1000 Tryz.f281 [.c (.int .u64 (k:Nat))] [] []) (YB (k:Nat))) 9=true:=by kernel_rfl
 have e:=i5 (aX all n.toNat (by omega))
 rw[show((n.toNat:Nat):Int)=n from by omega]at e
 exact mo t32 e rfl
noncomputable def T33:List aZ:=[⟨248,[0],GV⟩,⟨281,[],wW⟩]++T32
theorem e33:a7 Tryz.prog T33:=by
 refine a7.append ?_ e32
 intro e he
 simp only[List.mem_cons,List.not_mem_nil,or_false]at he
 rcases he with rfl|rfl
 ·exact a7L
 ·exact a87
theorem t33:bK Tryz.prog (a9 T33):=aO e33
theorem a6N:aQ Tryz.prog 249 (dV tt (a9 T33) Tryz.f249 []):=cG hT t33 bF [] (by kernel_rfl) (by kernel_rfl)
noncomputable def T34:List aZ:=[⟨249,[],dV tt (a9 T33) Tryz.f249 []⟩]++T33
theorem e34:a7 Tryz.prog T34:=by
 refine a7.append ?_ e33
 intro e he
 simp only[List.mem_cons,List.not_mem_nil,or_false]at he
 subst he;exact a6N
theorem t34:bK Tryz.prog (a9 T34):=aO e34
theorem UQ (v:List Int):aE tt (a9 T34) ([]) 100 Tryz.f211 [.c (.sl 0 0 v.length 1 none)] [.live (.ints .i64 v)] []=
  some ⟨.tup [],[.live (.ints .i64 (cV v))],((bet (IntKind.u64.wrap (↑v.length:Int)) 0 8&&true)&&(decide (v.length≤12)&&(decide (v.length=v.length)&&((decide ((↑v.length:Int)=(↑v.length:Int)))&&true)))),[]⟩:=by kernel_rfl
end
section
def C3:aM:=fun args h=>
 match args,h with
 |[.c (.sl 0 0 n 1 none)],[.live (.ints .i64 v)]=>
  some (.tup [],[.live (.ints .i64 (cV v))],[decide (v.length≤8),decide (n=v.length)])
 |_,_=>none
theorem a6Z:aQ Tryz.prog 211 C3:=by
 intro args h res h' o he ho
 unfold C3 at he
 split at he
 case h_2=>cases he
 rename_i n v
 simp only[Option.some.injEq,Prod.mk.injEq]at he
 obtain⟨rfl,rfl,rfl⟩:=he
 simp only[List.mem_cons,List.not_mem_nil,or_false,forall_eq_or_imp,forall_eq,decide_eq_true_eq]at ho
 obtain⟨o1,o2⟩:=ho
 subst o2
 exact mo t34 (UQ v) (by
  have hw:IntKind.u64.wrap (v.length:Int)=v.length:=by simp[IntKind.wrap,IntKind.bits,IntKind.signed];omega
  rw[hw]
  simp[bet];omega)
def yB (n t:Nat) (v:List Int):List Int:=(v.set t (v.getD (n-1-t) 0)).set (n-1-t) (v.getD t 0)
def j6 (v:List Int):List Int:=bH (yB v.length) (v.length/2) 0 v
noncomputable abbrev f114:=Tryz.f212
noncomputable def yM (n:Nat) (v:List Int) (i j:Int):St:=aR f114.ntmps [(0,.c (.sl 0 0 n 1 none)),(2,.c (.int .i64 i)),(3,.c (.int .i64 j))] [.live (.ints .i64 v)]
noncomputable def LE (v:List Int):St:=aR f114.ntmps [] [.live (.ints .i64 v)]
theorem S3 (n:Nat) (v:List Int) (i j:Int):aC 1 (a6 f114 0) (a8 f114 0) (aD tt (a9 T34) ([]) 1 100 (a5 0 (a0 f114)) (yM n v i j) [(0,true)])=
  some (.normal,(decide (i<j)&&(decide (0≤j)&&(decide (j<(↑n:Int))&&(decide (j.toNat<v.length)&&(decide (0≤i)&&(decide (i<(↑n:Int))&&(decide (i.toNat<v.length)&&(decide (0≤i)&&(decide (i<(↑n:Int))&&(decide (i.toNat<v.length)&&(decide (0≤j)&&(decide (j<(↑n:Int))&&((decide (j.toNat<(v.set i.toNat (v.getD j.toNat 0)).length))&&true))))))))))))),[],yM n ((v.set i.toNat (v.getD j.toNat 0)).set j.toNat (v.getD i.toNat 0)) (IntKind.i64.wrap (i+1)) (IntKind.i64.wrap (j-1))):=by kernel_rfl
theorem S4 (n:Nat) (v:List Int) (i j:Int):aC 1 (a6 f114 0) (a8 f114 0) (aD tt (a9 T34) ([]) 1 100 (a5 0 (a0 f114)) (yM n v i j) [(0,false)])=
  some (.exit 0,((!decide (i<j))&&true),[],LE (v)):=by kernel_rfl
theorem a5T (v:List Int) (hl:v.length≤274877906944):
  aN none Tryz.prog 1 (.block 0 (.loop (a5 0 (a0 f114)))) (yM v.length v 0 ((v.length:Int)-1)) fun e t=>e=.normal∧t=LE (j6 v):=by
 have key:=aN.count (ro:=none) hT t34 bF (m:=1) (id:=0) (body:=a5 0 (a0 f114)) (v.length/2) (fun _ b=>b.length=v.length) (fun t b=>yM v.length b t ((v.length:Int)-1-t)) (fun b=>LE b) (yB v.length) (a6 f114 0) (a8 f114 0)
  (fun _ _=>[]) (fun _ _ _ _=>aK.nil) (fun t b ht hb=>⟨by simp[yB,hb], ?_⟩) (fun b hb=> ?_) v rfl
 ·rw[Int.natCast_zero,Int.sub_zero]at key
  exact key
 ·have e:=S3 v.length b t ((v.length:Int)-1-t)
  rw[aB (i:=(t:Int)+1) (by omega) (by omega),cR (i:=(v.length:Int)-1-t-1) (by omega) (by omega),Int.toNat_natCast,show((v.length:Int)-1-t).toNat=v.length-1-t from by omega]at e
  rw[show(v.length:Int)-1-((t+1:Nat):Int)=(v.length:Int)-1-t-1 from by omega]
  refine⟨_,_,⟨_,_,e, ?_,by simp⟩⟩
  simp only[List.length_set,Bool.and_true,rpS,Bool.and_eq_true,decide_eq_true_eq]
  omega
 ·have e:=S4 v.length b (v.length/2:Nat) ((v.length:Int)-1-(v.length/2:Nat))
  refine⟨_,_,⟨_,_,e, ?_,by simp⟩⟩
  simp only[Bool.and_true,rpS,Bool.not_eq_true',decide_eq_false_iff_not]
  omega
theorem UR (v:List Int):aE tt (a9 T34) ([(0,⟨a6 f114 0,yM v.length v 0 (IntKind.i64.wrap ((v.length:Int)-1)),.normal,LE (j6 v)⟩)]) 100 f114 [.c (.sl 0 0 v.length 1 none)] [.live (.ints .i64 v)] []=
  some ⟨.tup [],[.live (.ints .i64 (j6 v))],true,[yM v.length v 0 (IntKind.i64.wrap ((v.length:Int)-1))=yM v.length v 0 (IntKind.i64.wrap ((v.length:Int)-1))]⟩:=by kernel_rfl
def GX:aM:=fun args h=>
 match args,h with
 |[.c (.sl 0 0 n 1 none)],[.live (.ints .i64 v)]=>
  some (.tup [],[.live (.ints .i64 (j6 v))],[decide (v.length≤274877906944),decide (n=v.length)])
 |_,_=>none
theorem a70:aQ Tryz.prog 212 GX:=by
 intro args h res h' o he ho
 unfold GX at he
 split at he
 case h_2=>cases he
 rename_i n v
 simp only[Option.some.injEq,Prod.mk.injEq]at he
 obtain⟨rfl,rfl,rfl⟩:=he
 simp only[List.mem_cons,List.not_mem_nil,or_false,forall_eq_or_imp,forall_eq,decide_eq_true_eq]at ho
 obtain⟨o1,o2⟩:=ho
 subst o2
 have g:=a5T v o1
 have e:=UR v
 rw[cR (by omega) (by omega)]at e
 exact mo (fn:=f114) t34 e (by simp) (hlc:=(fun cc hc=>aK.cons (c:=cc) (by cases hc;kernel_rfl) (by cases hc;exact g) aK.nil))
noncomputable abbrev f115:=Tryz.f213
noncomputable def qK (v:List Int) (k:Int):St:=aR f115.ntmps [(0,.c (.sl 0 0 v.length 1 none)),(3,.c (.int .i64 k))] [.live (.ints .i64 v)]
noncomputable def rZ (n k0:Nat) (v:List Int) (k k2:Int):St:=
 aR f115.ntmps [(0,.c (.sl 0 0 n 1 none)),(3,.c (.int .i64 k)),(4,.c (.sl 0 k0 (n-k0) 1 none)),(5,.c (.int .i64 k2))] [.live (.ints .i64 v)]
noncomputable def HN (n:Nat) (v:List Int) (k:Int):St:=aR f115.ntmps [(0,.c (.sl 0 0 n 1 none)),(3,.c (.int .i64 k))] [.live (.ints .i64 v)]
theorem N4 (n k0:Nat) (v:List Int) (k k2:Int):aC 1 (a6 f115 2) (a8 f115 2) (aD tt (a9 T34) ([]) 1 100 (a5 2 (a0 f115)) (rZ n k0 v k k2) [(0,true),(0,true)])=
  some (.normal,(decide (k2<(↑(n-k0):Int))&&(decide (0≤k2)&&(decide (k2<(↑(n-k0):Int))&&(decide (k2.toNat+k0<v.length)&&(decide (0≤IntKind.i64.wrap (k2-1))&&(decide (IntKind.i64.wrap (k2-1)<(↑(n-k0):Int))&&(decide ((IntKind.i64.wrap (k2-1)).toNat+k0<v.length)&&((v.getD (k2.toNat+k0) 0 !=v.getD ((IntKind.i64.wrap (k2-1)).toNat+k0) 0)&&(decide (0≤k2)&&(decide (k2<(↑(n-k0):Int))&&(decide (k2.toNat+k0<v.length)&&(decide (0≤k)&&(decide (k<(↑n:Int))&&((decide (k.toNat<v.length))&&true)))))))))))))),[],rZ n k0 (v.set k.toNat (v.getD (k2.toNat+k0) 0)) (IntKind.i64.wrap (k+1)) (IntKind.i64.wrap (k2+1))):=by kernel_rfl
theorem N5 (n k0:Nat) (v:List Int) (k k2:Int):aC 1 (a6 f115 2) (a8 f115 2) (aD tt (a9 T34) ([]) 1 100 (a5 2 (a0 f115)) (rZ n k0 v k k2) [(0,true),(0,false)])=
  some (.normal,(decide (k2<(↑(n-k0):Int))&&(decide (0≤k2)&&(decide (k2<(↑(n-k0):Int))&&(decide (k2.toNat+k0<v.length)&&(decide (0≤IntKind.i64.wrap (k2-1))&&(decide (IntKind.i64.wrap (k2-1)<(↑(n-k0):Int))&&(decide ((IntKind.i64.wrap (k2-1)).toNat+k0<v.length)&&((!v.getD (k2.toNat+k0) 0 !=v.getD ((IntKind.i64.wrap (k2-1)).toNat+k0) 0)&&true)))))))),[],rZ n k0 (v) (k) (IntKind.i64.wrap (k2+1))):=by kernel_rfl
theorem N6 (n k0:Nat) (v:List Int) (k k2:Int):aC 1 (a6 f115 2) (a8 f115 2) (aD tt (a9 T34) ([]) 1 100 (a5 2 (a0 f115)) (rZ n k0 v k k2) [(0,false)])=
  some (.exit 2,((!decide (k2<(↑(n-k0):Int)))&&true),[],HN n (v) (k)):=by kernel_rfl
noncomputable def LF (n:Nat) (v:List Int):St:=aR f115.ntmps [(0,.c (.sl 0 0 n 1 none))] [.live (.ints .i64 v)]
noncomputable def M2 (n:Nat) (v:List Int) (k:Nat):St:=
 aR f115.ntmps [(0,.c (.sl 0 0 n 1 none)),(2,.c (.sl 0 0 k 1 none))] [.live (.ints .i64 (v.take k++(List.replicate (n-k) 0++v.drop (k+(n-k)))))]
theorem S5 (v v':List Int) (k k0:Nat):aC 1 (a6 f115 0) (a8 f115 0) (aD tt (a9 T34) ([(2,⟨a6 f115 2,rZ v.length k0 v k0 1,.normal,HN v.length v' k⟩)]) 1 100 (a5 0 (a0 f115)) (qK v k0) [(0,true),(0,true)])=
  some (.ret,(rp2 (decide ((↑k0:Int)<(↑v.length:Int))) (decide ((↑k0:Int).toNat<v.length)&&(decide (0≤IntKind.i64.wrap ((↑k0:Int)-1))&&(decide (IntKind.i64.wrap ((↑k0:Int)-1)<(↑v.length:Int))&&(decide ((IntKind.i64.wrap ((↑k0:Int)-1)).toNat<v.length)&&((v.getD (↑k0:Int).toNat 0==v.getD (IntKind.i64.wrap ((↑k0:Int)-1)).toNat 0)&&(decide ((↑k0:Int)≤(↑v.length:Int))&&(decide ((↑k:Int)≤(↑v.length:Int))&&(decide ((↑k:Int).toNat+(v.length-(↑k:Int).toNat)≤v'.length)&&((decide ((↑k:Int)≤(↑v.length:Int)))&&true)))))))))),[rZ v.length k0 v k0 1=rZ v.length k0 v k0 1],M2 v.length v' k):=by kernel_rfl
theorem S6 (v v':List Int) (k k0:Nat) (lcv:List (Nat×LC)):aC 1 (a6 f115 0) (a8 f115 0) (aD tt (a9 T34) (lcv) 1 100 (a5 0 (a0 f115)) (qK v k0) [(0,false)])=
  some (.exit 0,((!decide ((↑k0:Int)<(↑v.length:Int)))&&true),[],LF v.length v):=by kernel_rfl
theorem N7 (v:List Int) (k0:Nat):aC 1 (a6 f115 0) (a8 f115 0) (aD tt (a9 T34) ([]) 1 100 (a5 0 (a0 f115)) (qK v k0) [(0,true),(0,false)])=
  some (.normal,(rp2 (decide ((↑k0:Int)<(↑v.length:Int))) (decide ((↑k0:Int).toNat<v.length)&&(decide (0≤IntKind.i64.wrap ((↑k0:Int)-1))&&(decide (IntKind.i64.wrap ((↑k0:Int)-1)<(↑v.length:Int))&&(decide ((IntKind.i64.wrap ((↑k0:Int)-1)).toNat<v.length)&&((!v.getD (↑k0:Int).toNat 0==v.getD (IntKind.i64.wrap ((↑k0:Int)-1)).toNat 0)&&true)))))),[],qK v (IntKind.i64.wrap ((k0:Int)+1))):=by kernel_rfl
def eO (v:List Int):Nat→List Int
 |0=>[]
 |n+1=>bif Nat.beq n 0||v.getD n 0 !=v.getD (n-1) 0 then eO v n++[v.getD n 0]else eO v n
def jE (v:List Int):List Int:=eO v v.length
theorem kS {v:List Int}: ∀(n:Nat),n≤v.length→(∀k,1≤k→k<n→(v.getD k 0==v.getD (k-1) 0)=false)→eO v n=v.take n
 |0,_,_=>by simp[eO]
 |n+1,hn,h=>by
  simp only[eO]
  rw[kS n (by omega) (fun k h1 h2=>h k h1 (by omega)),iP hn]
  have:(Nat.beq n 0||v.getD n 0 !=v.getD (n-1) 0)=true:=by
   by_cases h0:n=0
   ·subst h0;rfl
   ·have:=h n (by omega) (by omega)
    rw[bne,this];simp
  rw[this];rfl
def xT (k0 t:Nat) (v0:List Int) (s:List Int×Nat):List Int×Nat:=bif v0.getD (k0+1+t) 0 !=v0.getD (k0+t) 0 then(s.1.set s.2 (v0.getD (k0+1+t) 0),s.2+1)else s
def yJ (v:List Int) (k0 t:Nat) (s:List Int×Nat):Prop:=s.1.length=v.length∧s.2≤k0+t∧(∀q,s.2≤q→s.1.getD q 0=v.getD q 0)∧s.1.take s.2=eO v (k0+1+t)
theorem sE {v:List Int} {k0 t:Nat} {s:List Int×Nat} (h:yJ v k0 t s) (ht:k0+1+t<v.length):yJ v k0 (t+1) (xT k0 t v s):=by
 obtain⟨h1,h2,h3,h4⟩:=h
 unfold xT
 have hc:eO v (k0+1+(t+1))=bif v.getD (k0+1+t) 0 !=v.getD (k0+t) 0 then eO v (k0+1+t)++[v.getD (k0+1+t) 0]else eO v (k0+1+t):=by
  rw[show k0+1+(t+1)=(k0+1+t)+1 from by omega]
  simp only[eO]
  rw[show k0+1+t-1=k0+t from by omega]
  have:Nat.beq (k0+1+t) 0=false:=by
   cases h:Nat.beq _ 0 with
   |false=>rfl
   |true=>have:=Nat.eq_of_beq_eq_true h;omega
  rw[this,Bool.false_or]
 unfold yJ
 rw[hc]
 cases hq:v.getD (k0+1+t) 0 !=v.getD (k0+t) 0 with
 |true=>
  simp only[cond_true]
  refine⟨by simp[h1],by omega,fun q hq'=> ?_, ?_⟩
  ·rw[bD,if_neg (by omega)];exact h3 q (by omega)
  ·rw[iP (by rw[List.length_set];omega),List.take_set,List.set_eq_of_length_le (by rw[List.length_take];omega),bD,if_pos ⟨rfl,by omega⟩,h4]
 |false=>
  simp only[cond_false]
  exact⟨h1,by omega,h3,h4⟩
theorem oJ {v:List Int} {k0:Nat} (h0:1≤k0) (h1:k0<v.length) (he:(v.getD k0 0==v.getD (k0-1) 0)=true) (hd: ∀k,1≤k→k<k0→(v.getD k 0==v.getD (k-1) 0)=false):yJ v k0 0 (v,k0):=by
 refine⟨rfl,by dsimp only;omega,fun q _=>rfl, ?_⟩
 dsimp only
 rw[Nat.add_zero]
 simp only[eO]
 have hb:Nat.beq k0 0=false:=by
   cases h:Nat.beq _ 0 with
   |false=>rfl
   |true=>have:=Nat.eq_of_beq_eq_true h;omega
 rw[hb,Bool.false_or,bne,he]
 exact(kS k0 (by omega) hd).symm
theorem Y0 (v:List Int) (k0:Nat) (hl:v.length≤274877906944) (h1:k0<v.length) (hi:yJ v k0 0 (v,k0)):
  aN none Tryz.prog 1 (.block 2 (.loop (a5 2 (a0 f115)))) (rZ v.length k0 v k0 1) fun e t=>e=.normal∧
   t=HN v.length (bH (fun t s=>xT k0 t v s) (v.length-k0-1) 0 (v,k0)).1 (bH (fun t s=>xT k0 t v s) (v.length-k0-1) 0 (v,k0)).2:=by
 refine aN.count (ro:=none) hT t34 bF (m:=1) (id:=2) (body:=a5 2 (a0 f115)) (v.length-k0-1) (yJ v k0) (fun t s=>rZ v.length k0 s.1 s.2 (1+t:Nat)) (fun s=>HN v.length s.1 s.2) (fun t s=>xT k0 t v s) (a6 f115 2) (a8 f115 2)
  (fun _ _=>[]) (fun _ _ _ _=>aK.nil) (fun t s ht h=>⟨sE h (by omega), ?_⟩) (fun s h=> ?_) (v,k0) hi
 ·obtain⟨d1,d2,d3,d4⟩:=h
  have hw:IntKind.i64.wrap (((1+t:Nat):Int)-1)=(t:Nat):=by rw[cR (by omega) (by omega)];omega
  have e1:=d3 (1+t+k0) (by omega)
  have e2:=d3 (t+k0) (by omega)
  unfold xT
  rw[show k0+1+t=1+t+k0 from by omega,show k0+t=t+k0 from by omega]
  cases hq:v.getD (1+t+k0) 0 !=v.getD (t+k0) 0 with
  |true=>
   have e:=N4 v.length k0 s.1 s.2 (1+t:Nat)
   rw[hw,aB (i:=(s.2:Int)+1) (by omega) (by omega),aB (i:=((1+t:Nat):Int)+1) (by omega) (by omega),Int.toNat_natCast,Int.toNat_natCast,Int.toNat_natCast,e1,e2]at e
   refine⟨_,_,⟨_,_,e, ?_,by simp⟩⟩
   simp only[hq,Bool.true_and,rpS,Bool.and_true,Bool.and_eq_true,decide_eq_true_eq]
   omega
  |false=>
   have e:=N5 v.length k0 s.1 s.2 (1+t:Nat)
   rw[hw,aB (i:=((1+t:Nat):Int)+1) (by omega) (by omega),Int.toNat_natCast,Int.toNat_natCast,e1,e2]at e
   refine⟨_,_,⟨_,_,e, ?_,by simp⟩⟩
   simp only[hq,Bool.not_false,Bool.true_and,rpS,Bool.and_true,Bool.and_eq_true,decide_eq_true_eq]
   omega
 ·have e:=N6 v.length k0 s.1 s.2 (1+(v.length-k0-1):Nat)
  refine⟨_,_,⟨_,_,e, ?_,by simp⟩⟩
  simp only[Bool.and_true,rpS,Bool.not_eq_true',decide_eq_false_iff_not]
  omega
theorem M4:a5 2 (a5 0 (a0 f115))=a5 2 (a0 f115):=by kernel_rfl
def zK (v:List Int) (k0:Nat):List Int×Nat:=bH (fun t s=>xT k0 t v s) (v.length-k0-1) 0 (v,k0)
def xS (v:List Int) (t:Nat) (_:Unit):Unit⊕(List Int×Nat):=bif v.getD (1+t) 0==v.getD t 0 then .inr (zK v (1+t))else .inl ()
theorem a5U (v:List Int) (hl:v.length≤274877906944):
  aN none Tryz.prog 1 (.block 0 (.loop (a5 0 (a0 f115)))) (qK v 1) fun e t=>match cD (xS v) (v.length-1) 0 ()with
   |.inl _=>e=.normal∧t=LF v.length v
   |.inr c=>e=.ret∧t=M2 v.length c.1 c.2:=by
 have key:=aN.countE (ro:=none) hT t34 bF (m:=1) (id:=0) (body:=a5 0 (a0 f115)) (v.length-1) (fun t _=> ∀k,1≤k→k<1+t→(v.getD k 0==v.getD (k-1) 0)=false) (fun t _=>qK v (1+t:Nat)) (fun _=>LF v.length v)
  (fun c=>M2 v.length c.1 c.2) .ret (.inr rfl) (xS v) (a6 f115 0) (a8 f115 0)
  (fun t _=>bif v.getD (1+t) 0==v.getD t 0 then [(2,⟨a6 f115 2,rZ v.length (1+t) v (1+t:Nat) 1,.normal,HN v.length (zK v (1+t)).1 (zK v (1+t)).2⟩)]else []) (fun t _ ht h=> ?_) (fun t _ ht h=> ?_) (fun _ h=> ?_) () (fun k h1 h2=>by omega)
 ·refine aN.mono key fun e t h=> ?_
  revert h
  cases cD (xS v) (v.length-1) 0 ()<;>exact fun h=>h
 ·cases hq:v.getD (1+t) 0==v.getD t 0 with
  |true=>exact aK.cons (by kernel_rfl) (by rw[M4];exact Y0 v (1+t) hl (by omega) (oJ (by omega) (by omega) (by rw[show 1+t-1=t from by omega];exact hq) h)) aK.nil
  |false=>exact aK.nil
 ·have hw:IntKind.i64.wrap (((1+t:Nat):Int)-1)=(t:Nat):=by rw[cR (by omega) (by omega)];omega
  unfold xS
  cases hq:v.getD (1+t) 0==v.getD t 0 with
  |true=>
   refine .inr ⟨_,rfl, ?_⟩
   have hi:=oJ (v:=v) (k0:=1+t) (by omega) (by omega) (by rw[show 1+t-1=t from by omega];exact hq) h
   have fin:=aY (step:=fun u s=>xT (1+t) u v s) (yJ v (1+t)) (v.length-(1+t)-1) (v,1+t) hi fun u s hu h=>sE h (by omega)
   have e:=S5 v (zK v (1+t)).1 (zK v (1+t)).2 (1+t)
   rw[hw,Int.toNat_natCast,Int.toNat_natCast]at e
   obtain⟨f1,f2,f3,f4⟩:=fin
   refine⟨_,_,⟨_,_,e, ?_,by simp⟩⟩
   have g1:(zK v (1+t)).1.length=v.length:=f1
   have g2:(zK v (1+t)).2≤1+t+(v.length-(1+t)-1):=f2
   simp only[hq,Int.toNat_natCast,Bool.true_and,rpS,Bool.and_true,Bool.and_eq_true,decide_eq_true_eq]
   omega
  |false=>
   refine .inl ⟨(),rfl,fun k h1 h2=> ?_, ?_⟩
   ·by_cases e:k=1+t
    ·subst e;rw[show 1+t-1=t from by omega];exact hq
    ·exact h k h1 (by omega)
   ·have e:=N7 v (1+t)
    rw[hw,Int.toNat_natCast,Int.toNat_natCast,aB (by omega) (by omega)]at e
    refine⟨_,_,⟨_,_,e, ?_,by simp⟩⟩
    simp only[hq,Bool.not_false,Bool.true_and,rpS,Bool.and_true,Bool.and_eq_true,decide_eq_true_eq]
    omega
 ·have e:=S6 v [] 0 (1+(v.length-1)) []
  refine⟨_,_,⟨_,_,e, ?_,by simp⟩⟩
  simp only[Bool.and_true,rpS,Bool.not_eq_true',decide_eq_false_iff_not]
  omega
end
section
theorem ON (v:List Int):aE tt (a9 T34) ([]) 100 f115 [.c (.sl 0 0 v.length 1 none)] [.live (.ints .i64 v)] [(0,true)]=
  some ⟨.c (.sl 0 0 v.length 1 none),[.live (.ints .i64 v)],((decide ((↑v.length:Int)<2))&&true),[]⟩:=by kernel_rfl
theorem OO (v:List Int):aE tt (a9 T34) ([(0,⟨a6 f115 0,qK v 1,.normal,LF v.length v⟩)]) 100 f115 [.c (.sl 0 0 v.length 1 none)] [.live (.ints .i64 v)] [(0,false)]=
  some ⟨.c (.sl 0 0 v.length 1 none),[.live (.ints .i64 v)],((!decide ((↑v.length:Int)<2))&&true),[qK v 1=qK v 1]⟩:=by kernel_rfl
theorem OP (v v':List Int) (k:Nat):aE tt (a9 T34) ([(0,⟨a6 f115 0,qK v 1,.ret,M2 v.length v' k⟩)]) 100 f115 [.c (.sl 0 0 v.length 1 none)] [.live (.ints .i64 v)] [(0,false)]=
  some ⟨.c (.sl 0 0 k 1 none),[.live (.ints .i64 (List.take k v'++(List.replicate (v.length-k) 0++List.drop (k+(v.length-k)) v')))],((!decide ((↑v.length:Int)<2))&&true),[qK v 1=qK v 1]⟩:=by kernel_rfl
def oB:aM:=fun args h=>
 match args,h with
 |[.c (.sl 0 0 n 1 none)],[.live (.ints .i64 v)]=>
  some (.c (.sl 0 0 (jE v).length 1 none),[.live (.ints .i64 (jE v))],[decide (v.length≤274877906944),decide (n=v.length)])
 |_,_=>none
theorem JA (v:List Int):match cD (xS v) (v.length-1) 0 ()with
  |.inl _=>jE v=v
  |.inr c=>c.1.length=v.length∧c.2≤v.length∧c.1.take c.2=jE v:=by
 have:=gO (step:=xS v) (fun t _=> ∀k,1≤k→k<1+t→(v.getD k 0==v.getD (k-1) 0)=false) (fun c=>c.1.length=v.length∧c.2≤v.length∧c.1.take c.2=jE v) (v.length-1) 0 ()
  (fun k h1 h2=>by omega) (fun t _ h1 h2 h=> ?_)
 ·revert this
  cases cD (xS v) (v.length-1) 0 ()with
  |inl u=>
   intro h
   have:=kS (v:=v) v.length (Nat.le_refl _) (fun k h1 h2=>h k h1 (by omega))
   rw[List.take_length]at this;exact this
  |inr c=>exact fun h=>h
 ·unfold xS
  cases hq:v.getD (1+t) 0==v.getD t 0 with
  |true=>
   refine⟨fun b' hb=>by simp at hb,fun c hc=> ?_⟩
   simp only[cond_true,Sum.inr.injEq]at hc
   subst hc
   have hi:=oJ (v:=v) (k0:=1+t) (by omega) (by omega) (by rw[show 1+t-1=t from by omega];exact hq) h
   have fin:=aY (step:=fun u s=>xT (1+t) u v s) (yJ v (1+t)) (v.length-(1+t)-1) (v,1+t) hi fun u s hu h=>sE h (by omega)
   obtain⟨f1,f2,f3,f4⟩:=fin
   refine⟨f1, ?_, ?_⟩
   ·have g2:(zK v (1+t)).2≤1+t+(v.length-(1+t)-1):=f2
    omega
   ·rw[show 1+t+1+(v.length-(1+t)-1)=v.length from by omega]at f4
    exact f4
  |false=>
   refine⟨fun b' _ k h3 h4=> ?_,fun c hc=>by simp at hc⟩
   by_cases e:k=1+t
   ·subst e;rw[show 1+t-1=t from by omega];exact hq
   ·exact h k h3 (by omega)
theorem a71:aQ Tryz.prog 213 oB:=by
 intro args h res h' o he ho
 unfold oB at he
 split at he
 case h_2=>cases he
 rename_i n v
 simp only[Option.some.injEq,Prod.mk.injEq]at he
 obtain⟨rfl,rfl,rfl⟩:=he
 simp only[List.mem_cons,List.not_mem_nil,or_false,forall_eq_or_imp,forall_eq,decide_eq_true_eq]at ho
 obtain⟨o1,o2⟩:=ho
 subst o2
 by_cases hs:(v.length:Int)<2
 ·have hc:jE v=v:=by
   have:=kS (v:=v) v.length (Nat.le_refl _) (fun k h1 h2=>by omega)
   rw[List.take_length]at this;exact this
  rw[hc]
  exact mo (fn:=f115) t34 (ON v) (by simp[hs])
 ·have g:=a5U v o1
  have sp:=JA v
  cases hr:cD (xS v) (v.length-1) 0 ()with
  |inl u=>
   rw[hr]at g sp
   dsimp only at g sp
   rw[sp]
   exact mo (fn:=f115) t34 (OO v) (by simp[hs]) (hlc:=(fun cc hc=>aK.cons (c:=cc) (by cases hc;kernel_rfl) (by cases hc;exact g) aK.nil))
  |inr c=>
   rw[hr]at g sp
   dsimp only at g sp
   obtain⟨s1,s2,s3⟩:=sp
   have mm:=mo (f:=213) (fn:=f115) t34 (OP v c.1 c.2) (by simp[hs]) (hlc:=(fun cc hc=>aK.cons (c:=cc) (by cases hc;kernel_rfl) (by cases hc;exact g) aK.nil))
   have hlen:(jE v).length=c.2:=by rw[←s3,List.length_take];omega
   rw[hlen]
   refine mm.slots ⟨?_,trivial⟩
   have h6:(List.take c.2 c.1++(List.replicate (v.length-c.2) 0++List.drop (c.2+(v.length-c.2)) c.1)).take c.2=jE v:=by
    rw[List.take_append_of_le_length (by rw[List.length_take];omega),List.take_take,Nat.min_self];exact s3
   rw[←h6]
   exact fF.take _ _ _
noncomputable def T35:List aZ:=[⟨211,[0],C3⟩,⟨212,[0],GX⟩,⟨213,[0],oB⟩]++T34
theorem e35:a7 Tryz.prog T35:=by
 refine a7.append ?_ e34
 intro e he
 simp only[List.mem_cons,List.not_mem_nil,or_false]at he
 rcases he with rfl|rfl|rfl
 ·exact a6Z
 ·exact a70
 ·exact a71
theorem t35:bK Tryz.prog (a9 T35):=aO e35
noncomputable abbrev f66:=Tryz.f175
noncomputable def I66 (k:Int) (a b:List Int) (c:List Bool) (v:List Int) (n:Nat) (out:List Int) (i:Int):St:=
 aR f66.ntmps [(1,.c (.ptr 0 0 0 0)),(3,.c (.sl 1 0 n 1 none)),(9,.c (.sl 2 0 v.length 1 none)),(10,.c (.int .i64 v.length)),(11,.c (.int .i64 i))]
  [.live (.cells [.int .i64 k,.view none (.ints .i64 a) a.length 1 none,.view none (.ints .i64 b) b.length 1 none,.view none (.bools c) c.length 1 none]),.live (.ints .i64 out),.live (.ints .i64 v)]
noncomputable def X66 (n:Nat) (out:List Int):St:=aR f66.ntmps [(3,.c (.sl 0 0 n 1 none))] [.live (.ints .i64 out)]
theorem ZZ (k:Int) (a b:List Int) (c:List Bool) (v:List Int) (n:Nat) (out:List Int) (i:Int):aC 0 (a6 f66 0) (a8 f66 0) (aD tt (a9 T35) ([]) 0 100 (a5 0 (a0 f66)) (I66 k a b c v n out i) [(0,true)])=
  some (.normal,(decide (i<(↑v.length:Int))&&(decide (0≤i)&&(decide (i<(↑v.length:Int))&&(decide (i.toNat<v.length)&&(decide (0≤v.getD i.toNat 0)&&(decide (v.getD i.toNat 0<(↑b.length:Int))&&(decide ((v.getD i.toNat 0).toNat<b.length)&&(decide (n=out.length)&&((decide (n+1≤274877906944))&&true))))))))),[],I66 k a b c v (n+1) (out++[b.getD (v.getD i.toNat 0).toNat 0]) (IntKind.i64.wrap (i+1))):=by kernel_rfl
theorem a00 (k:Int) (a b:List Int) (c:List Bool) (v:List Int) (n:Nat) (out:List Int) (i:Int):aC 0 (a6 f66 0) (a8 f66 0) (aD tt (a9 T35) ([]) 0 100 (a5 0 (a0 f66)) (I66 k a b c v n out i) [(0,false)])=
  some (.exit 0,((!decide (i<(↑v.length:Int)))&&true),[],X66 (n) (out)):=by kernel_rfl
def jN (b v:List Int) (i:Nat) (out:List Int):List Int:=out++[b.getD (v.getD i 0).toNat 0]
def cQ (b v:List Int):List Int:=bH (jN b v) v.length 0 []
def bJ (b:List Int) (c:List Bool):List Int:=jE (j6 (cV (cQ b (flg c))))
theorem a3F (k:Int) (a b:List Int) (c:List Bool):aE tt (a9 T35) ([(0,⟨a6 f66 0,I66 k a b c (flg c) 0 [] 0,.normal,X66 (cQ b (flg c)).length (cQ b (flg c))⟩)]) 100 f66 [.agg [.int .i64 k,.view none (.ints .i64 a) a.length 1 none,.view none (.ints .i64 b) b.length 1 none,.view none (.bools c) c.length 1 none]] [] []=
  some ⟨.c (.sl 0 0 (jE (j6 (cV (cQ b (flg c))))).length 1 none),[.live (.ints .i64 (jE (j6 (cV (cQ b (flg c))))))],(decide (c.length≤274877906944)&&(decide ((cQ b (flg c)).length≤8)&&(decide ((cQ b (flg c)).length=(cQ b (flg c)).length)&&(decide ((cV (cQ b (flg c))).length≤274877906944)&&(decide ((cQ b (flg c)).length=(cV (cQ b (flg c))).length)&&(decide ((j6 (cV (cQ b (flg c)))).length≤274877906944)&&((decide ((cQ b (flg c)).length=(j6 (cV (cQ b (flg c)))).length))&&true))))))),[I66 k a b c (flg c) 0 [] 0=I66 k a b c (flg c) 0 [] 0]⟩:=by kernel_rfl
end
section
theorem pK (b v:List Int):(cQ b v).length=v.length:=aY (step:=jN b v) (fun i o=>o.length=i) v.length [] rfl fun i o _ h=>by simp[jN,h]
theorem l66 (k:Int) (a b:List Int) (c:List Bool) (v:List Int) (hl:v.length≤8) (hp:d7 v b.length=true):
  aN none Tryz.prog 0 (.block 0 (.loop (a5 0 (a0 f66)))) (I66 k a b c v 0 [] 0) fun e t=>e=.normal∧t=X66 (cQ b v).length (cQ b v):=by
 refine(aN.count (ro:=none) hT t35 bF v.length (fun i o=>o.length=i) (fun i o=>I66 k a b c v o.length o i) (fun o=>X66 o.length o) (jN b v) (a6 f66 0) (a8 f66 0)
  (fun _ _=>[]) (fun _ _ _ _=>aK.nil) (fun i o hi h=>⟨by simp[jN,h], ?_⟩) (fun o h=>⟨_,_,⟨_,_,a00 k a b c v o.length o v.length,by simp,by simp⟩⟩)) [] rfl
 have hb:=gL hp hi
 have e:=ZZ k a b c v o.length o i
 rw[aB (by omega) (by omega),Int.toNat_natCast]at e
 have hlen:(jN b v i o).length=o.length+1:=by simp[jN]
 rw[hlen]
 refine⟨_,_,⟨_,_,e, ?_,by simp⟩⟩
 simp only[Bool.and_true,rpS,Bool.and_eq_true,decide_eq_true_eq,true_and,and_true]
 omega
theorem tU (v:List Int):(j6 v).length=v.length:=aY (step:=yB v.length) (fun _ o=>o.length=v.length) _ v rfl fun i o _ h=>by simp[yB,h]
def CA:aM:=fun args h=>
 match args,h with
 |[.agg [.int .i64 k,.view _ (.ints .i64 a) n1 1 _,.view _ (.ints .i64 b) n2 1 _,.view _ (.bools c) n3 1 _]],[]=>
  some (.c (.sl 0 0 (bJ b c).length 1 none),[.live (.ints .i64 (bJ b c))],[decide (c.length≤8),decide (b.length=c.length)])
 |_,_=>none
theorem m66:aS Tryz.prog 175 CA:=by
 intro args h res h' o hnorm he ho
 unfold CA at he
 split at he
 case h_2=>cases he
 rename_i k nl1 a n1 cap1 nl2 b n2 cap2 nl3 c n3 cap3
 simp only[Option.some.injEq,Prod.mk.injEq]at he
 obtain⟨rfl,rfl,rfl⟩:=he
 simp only[List.mem_cons,List.not_mem_nil,or_false,forall_eq_or_imp,forall_eq,decide_eq_true_eq]at ho
 obtain⟨o1,o2⟩:=ho
 simp only[b8,AV.norm,bA,aF.norm,Con.size,List.cons.injEq,AV.c.injEq,AV.agg.injEq,aF.view.injEq,aL,true_and,and_true]at hnorm
 obtain⟨⟨rfl,rfl,rfl⟩,⟨rfl,rfl,rfl⟩,rfl,rfl,rfl⟩:=hnorm
 have h1:=n7 c
 have g:=l66 k a b c (flg c) (by omega) (by rw[o2];exact m7 c)
 exact mo (fn:=f66) t35 (a3F k a b c) (by simp[pK,pH,tU];omega) (hlc:=(fun cc hc=>aK.cons (c:=cc) (by cases hc;kernel_rfl) (by cases hc;exact g) aK.nil))
noncomputable def T36:List aZ:=[⟨175,[],nm CA⟩]++T35
theorem e36:a7 Tryz.prog T36:=by
 refine a7.append ?_ e35
 intro e he
 simp only[List.mem_cons,List.not_mem_nil,or_false]at he
 subst he;exact m66.ok
theorem t36:bK Tryz.prog (a9 T36):=aO e36
theorem a3M (k:Int) (a b:List Int) (c:List Bool):aE tt (a9 T36) ([]) 100 Tryz.f181 [.agg [.int .i64 k,.view none (.ints .i64 a) a.length 1 none,.view none (.ints .i64 b) b.length 1 none,.view none (.bools c) c.length 1 none]] [] [(0,true)]=
  some ⟨.c (.int .i64 ((bJ b c).getD 0 0)),[],(decide (c.length≤8)&&(decide (b.length=c.length)&&(rp2 (decide (0<(↑(bJ b c).length:Int))) ((decide (0<(bJ b c).length))&&true)))),[]⟩:=by kernel_rfl
theorem a3N (k:Int) (a b:List Int) (c:List Bool):aE tt (a9 T36) ([]) 100 Tryz.f181 [.agg [.int .i64 k,.view none (.ints .i64 a) a.length 1 none,.view none (.ints .i64 b) b.length 1 none,.view none (.bools c) c.length 1 none]] [] [(0,false)]=
  some ⟨.c (.int .i64 0),[],(decide (c.length≤8)&&(decide (b.length=c.length)&&((!decide (0<(↑(bJ b c).length:Int)))&&true))),[]⟩:=by kernel_rfl
def i9 (b:List Int) (c:List Bool):Int:=(bJ b c).getD 0 0
def H6:aM:=fun args h=>
 match args,h with
 |[.agg [.int .i64 k,.view _ (.ints .i64 a) n1 1 _,.view _ (.ints .i64 b) n2 1 _,.view _ (.bools c) n3 1 _]],[]=>
  some (.c (.int .i64 (i9 b c)),[],[decide (c.length≤8),decide (b.length=c.length)])
 |_,_=>none
theorem m73:aS Tryz.prog 181 H6:=by
 intro args h res h' o hnorm he ho
 unfold H6 at he
 split at he
 case h_2=>cases he
 rename_i k nl1 a n1 cap1 nl2 b n2 cap2 nl3 c n3 cap3
 simp only[Option.some.injEq,Prod.mk.injEq]at he
 obtain⟨rfl,rfl,rfl⟩:=he
 simp only[List.mem_cons,List.not_mem_nil,or_false,forall_eq_or_imp,forall_eq,decide_eq_true_eq]at ho
 obtain⟨o1,o2⟩:=ho
 simp only[b8,AV.norm,bA,aF.norm,Con.size,List.cons.injEq,AV.c.injEq,AV.agg.injEq,aF.view.injEq,aL,true_and,and_true]at hnorm
 obtain⟨⟨rfl,rfl,rfl⟩,⟨rfl,rfl,rfl⟩,rfl,rfl,rfl⟩:=hnorm
 by_cases h0:0<((bJ b c).length:Int)
 ·exact mo t36 (a3M k a b c) (by simp only[Bool.and_eq_true,rpS,decide_eq_true_eq,Bool.and_true];omega)
 ·have hz:i9 b c=0:=by
   have:bJ b c=[]:=List.eq_nil_of_length_eq_zero (by omega)
   unfold i9;rw[this];rfl
  rw[hz]
  exact mo t36 (a3N k a b c) (by simp only[Bool.and_eq_true,rpS,decide_eq_true_eq,Bool.and_true,Bool.not_eq_true',decide_eq_false_iff_not];omega)
theorem a8P:aQ Tryz.prog 216 (dV tt (a9 T36) Tryz.f216 []):=cG hT t36 bF [] (by kernel_rfl) (by kernel_rfl)
noncomputable def T37:List aZ:=[⟨181,[],nm H6⟩,⟨216,[1],dV tt (a9 T36) Tryz.f216 []⟩]++T36
theorem e37:a7 Tryz.prog T37:=by
 refine a7.append ?_ e36
 intro e he
 simp only[List.mem_cons,List.not_mem_nil,or_false]at he
 rcases he with rfl|rfl
 ·exact m73.ok
 ·exact a8P
theorem t37:bK Tryz.prog (a9 T37):=aO e37
noncomputable abbrev eQ:=Tryz.f122
noncomputable def jD (k:Int) (n1 n2 n3:Nat) (nl1 nl2 nl3:Option Bool) (cap1 cap2 cap3:Option Nat) (a b:List Int) (c:List Bool) (v:List Int) (i:Int):St:=
 aR eQ.ntmps [(0,.c (.sl 0 0 v.length 1 none)),(1,.c (.fn 216 [.ptr 1 0 0 0])),(7,.c (.int .i64 v.length)),(8,.c (.int .i64 i))] [.live (.ints .i64 v),.live (.cells [.int .i64 k,.view nl1 (.ints .i64 a) n1 1 cap1,.view nl2 (.ints .i64 b) n2 1 cap2,.view nl3 (.bools c) n3 1 cap3])]
noncomputable def HM (k:Int) (n1 n2 n3:Nat) (nl1 nl2 nl3:Option Bool) (cap1 cap2 cap3:Option Nat) (a b:List Int) (c:List Bool) (v:List Int):St:=aR eQ.ntmps [] [.live (.ints .i64 v),.live (.cells [.int .i64 k,.view nl1 (.ints .i64 a) n1 1 cap1,.view nl2 (.ints .i64 b) n2 1 cap2,.view nl3 (.bools c) n3 1 cap3])]
noncomputable def HR (k:Int) (n1 n2 n3:Nat) (nl1 nl2 nl3:Option Bool) (cap1 cap2 cap3:Option Nat) (a b:List Int) (c:List Bool) (v:List Int) (i:Int):St:=aR eQ.ntmps [(4,.c (.int .i64 i))] [.live (.ints .i64 v),.live (.cells [.int .i64 k,.view nl1 (.ints .i64 a) n1 1 cap1,.view nl2 (.ints .i64 b) n2 1 cap2,.view nl3 (.bools c) n3 1 cap3])]
theorem NO (k:Int) (n1 n2 n3:Nat) (nl1 nl2 nl3:Option Bool) (cap1 cap2 cap3:Option Nat) (a b:List Int) (c:List Bool) (v:List Int) (i:Int):aC 2 (a6 eQ 0) (a8 eQ 0) (aD tt (a9 T37) ([]) 2 100 (a5 0 (a0 eQ)) (jD k n1 n2 n3 nl1 nl2 nl3 cap1 cap2 cap3 a b c v i) [(0,true),(0,true)])=
  some (.ret,(decide (i<(↑v.length:Int))&&(decide (0≤i)&&(decide (i<(↑v.length:Int))&&(decide (i.toNat<v.length)&&((decide (c.length≤274877906944)&&(decide (b.length=c.length)&&(decide ((ofL b c (v.getD i.toNat 0)).length=(ofL b c (v.getD i.toNat 0)).length)&&(decide ((ofL b c (v.getD i.toNat 0)).length≤8)&&(bet k 1 2&&(bC (ofL b c (v.getD i.toNat 0))&&(decide (a.length=8)&&(aA a&&(dO k a (ofL b c (v.getD i.toNat 0))&&true)))))))))&&((!cE k a (ofL b c (v.getD i.toNat 0)))&&true)))))),[],HR k n1 n2 n3 nl1 nl2 nl3 cap1 cap2 cap3 a b c v (i)):=by kernel_rfl
theorem NP (k:Int) (n1 n2 n3:Nat) (nl1 nl2 nl3:Option Bool) (cap1 cap2 cap3:Option Nat) (a b:List Int) (c:List Bool) (v:List Int) (i:Int):aC 2 (a6 eQ 0) (a8 eQ 0) (aD tt (a9 T37) ([]) 2 100 (a5 0 (a0 eQ)) (jD k n1 n2 n3 nl1 nl2 nl3 cap1 cap2 cap3 a b c v i) [(0,true),(0,false)])=
  some (.normal,(decide (i<(↑v.length:Int))&&(decide (0≤i)&&(decide (i<(↑v.length:Int))&&(decide (i.toNat<v.length)&&((decide (c.length≤274877906944)&&(decide (b.length=c.length)&&(decide ((ofL b c (v.getD i.toNat 0)).length=(ofL b c (v.getD i.toNat 0)).length)&&(decide ((ofL b c (v.getD i.toNat 0)).length≤8)&&(bet k 1 2&&(bC (ofL b c (v.getD i.toNat 0))&&(decide (a.length=8)&&(aA a&&(dO k a (ofL b c (v.getD i.toNat 0))&&true)))))))))&&((!!cE k a (ofL b c (v.getD i.toNat 0)))&&true)))))),[],jD k n1 n2 n3 nl1 nl2 nl3 cap1 cap2 cap3 a b c v (IntKind.i64.wrap (i+1))):=by kernel_rfl
theorem NQ (k:Int) (n1 n2 n3:Nat) (nl1 nl2 nl3:Option Bool) (cap1 cap2 cap3:Option Nat) (a b:List Int) (c:List Bool) (v:List Int) (i:Int):aC 2 (a6 eQ 0) (a8 eQ 0) (aD tt (a9 T37) ([]) 2 100 (a5 0 (a0 eQ)) (jD k n1 n2 n3 nl1 nl2 nl3 cap1 cap2 cap3 a b c v i) [(0,false)])=
  some (.exit 0,((!decide (i<(↑v.length:Int)))&&true),[],HM k n1 n2 n3 nl1 nl2 nl3 cap1 cap2 cap3 a b c v):=by kernel_rfl
noncomputable def PD (k:Int) (n1 n2 n3:Nat) (nl1 nl2 nl3:Option Bool) (cap1 cap2 cap3:Option Nat) (a b:List Int) (c:List Bool) (v:List Int):Option Nat→St
 |some j=>HR k n1 n2 n3 nl1 nl2 nl3 cap1 cap2 cap3 a b c v j
 |none=>HM k n1 n2 n3 nl1 nl2 nl3 cap1 cap2 cap3 a b c v
theorem Y7 (k:Int) (n1 n2 n3:Nat) (nl1 nl2 nl3:Option Bool) (cap1 cap2 cap3:Option Nat) (a b:List Int) (c:List Bool) (v:List Int) (hl:v.length≤274877906944) (hc:c.length≤274877906944) (hbc:b.length=c.length) (hkd:bet k 1 2=true) (ha:a.length=8) (haf:aA a=true) (hok: ∀i,i<v.length→(ofL b c (v.getD i 0)).length≤8∧bC (ofL b c (v.getD i 0))=true∧dO k a (ofL b c (v.getD i 0))=true):
  aN none Tryz.prog 2 (.block 0 (.loop (a5 0 (a0 eQ)))) (jD k n1 n2 n3 nl1 nl2 nl3 cap1 cap2 cap3 a b c v 0) fun e t=>e=uW (eU (fun x=> !cE k a (ofL b c x)) v)∧t=PD k n1 n2 n3 nl1 nl2 nl3 cap1 cap2 cap3 a b c v (eU (fun x=> !cE k a (ofL b c x)) v):=by
 refine aN.roundsR (ro:=none) hT t37 bF (m:=2) (id:=0) (body:=a5 0 (a0 eQ)) (α:=Nat)
  (fun i=>i≤v.length∧dM (fun x=> !cE k a (ofL b c x)) v (v.length-i) i=eU (fun x=> !cE k a (ofL b c x)) v) (fun i=>jD k n1 n2 n3 nl1 nl2 nl3 cap1 cap2 cap3 a b c v i) (fun i=>v.length-i) (a6 eQ 0) (a8 eQ 0)
  (fun _=>uW (eU (fun x=> !cE k a (ofL b c x)) v)) (fun _=>PD k n1 n2 n3 nl1 nl2 nl3 cap1 cap2 cap3 a b c v (eU (fun x=> !cE k a (ofL b c x)) v)) (fun _=>[]) (fun _ _=>aK.nil) (fun i hx=> ?_) 0 ⟨by simp,rfl⟩
 obtain⟨h1,h3⟩:=hx
 by_cases hi:i<v.length
 ·have hk:v.length-i=(v.length-(i+1))+1:=by omega
  rw[hk]at h3
  simp only[dM]at h3
  obtain⟨ho1,ho2,ho3⟩:=hok i hi
  cases hz:(fun x=> !cE k a (ofL b c x)) (v.getD i 0)with
  |false=>
   dsimp only at hz
   rw[hz]at h3
   have e:=NP k n1 n2 n3 nl1 nl2 nl3 cap1 cap2 cap3 a b c v i
   rw[aB (by omega) (by omega),Int.toNat_natCast]at e
   refine⟨_,_,_,_,_,_,e, ?_,by simp,.inl ⟨rfl,i+1,⟨by omega,by simpa using h3⟩,by omega,rfl,rfl,rfl⟩⟩
   simp only[hz,ho2,ho3,hkd,haf,Bool.not_false,Bool.true_and,rpS,Bool.and_true,Bool.and_eq_true,decide_eq_true_eq,true_and,and_true]
   omega
  |true=>
   dsimp only at hz
   rw[hz]at h3
   simp only[cond_true]at h3
   have e:=NO k n1 n2 n3 nl1 nl2 nl3 cap1 cap2 cap3 a b c v i
   rw[Int.toNat_natCast]at e
   refine⟨_,_,_,_,_,_,e, ?_,by simp,.inr (.inr ⟨by simp,by simp, ?_, ?_⟩)⟩
   ·simp only[hz,ho2,ho3,hkd,haf,Bool.true_and,rpS,Bool.and_true,Bool.and_eq_true,decide_eq_true_eq,true_and,and_true]
    omega
   ·rw[←h3];rfl
   ·rw[←h3];rfl
 ·have hz:v.length-i=0:=by omega
  rw[hz]at h3
  simp only[dM]at h3
  exact⟨_,_,_,_,_,_,NQ k n1 n2 n3 nl1 nl2 nl3 cap1 cap2 cap3 a b c v i,by simp;omega,by simp,.inr (.inl ⟨rfl,by rw[←h3];rfl,by rw[←h3];rfl⟩)⟩
end
section
theorem AM {β γ:Type} {s:Nat→β→β} {s':Nat→γ→γ} (R:Nat→β→γ→Prop): ∀(f i:Nat) (b:β) (c:γ),R i b c→(∀k b c,i≤k→k<i+f→R k b c→R (k+1) (s k b) (s' k c))→R (i+f) (bH s f i b) (bH s' f i c)
 |0,i,b,c,h,_=>h
 |f+1,i,b,c,h,hs=>by
  have:=AM (s:=s) (s':=s') R f (i+1) (s i b) (s' i c) (hs i b c (Nat.le_refl _) (by omega) h) (fun k b c h1 h2=>hs k b c (by omega) (by omega))
  rw[show i+(f+1)=i+1+f from by omega]
  exact this
theorem wG {β γ:Type} {s:Nat→β→β} {s':Nat→γ→γ} (R:Nat→β→γ→Prop) (n:Nat) (b:β) (c:γ) (h:R 0 b c) (hs: ∀k b c,k<n→R k b c→R (k+1) (s k b) (s' k c)):R n (bH s n 0 b) (bH s' n 0 c):=by
 have:=AM R n 0 b c h (fun k b c _ h2=>hs k b c (by omega))
 rwa[Nat.zero_add]at this
def f9 (n:Nat) (zs zs':List Int):Prop:=zs.length=n*5∧zs'.length=n*5∧ ∀j,j<n→ ∀q,q<4→zs.getD (j*5+q) 0=zs'.getD (j*5+q) 0
theorem f9.ld {n:Nat} {zs zs':List Int} (h:f9 n zs zs') {i:Nat} (hi:i<n):ld5 zs i=ld5 zs' i:=by
 unfold ld5
 have h0:=h.2.2 i hi 0 (by omega)
 rw[Nat.add_zero]at h0
 rw[h0,h.2.2 i hi 1 (by omega),h.2.2 i hi 2 (by omega),h.2.2 i hi 3 (by omega)]
theorem DK (w w' v ys:List Int) (r:Nat):f9 r (lS w v ys r) (lS w' v ys r):=by
 refine wG (fun i zs zs'=>f9 i zs zs') r [] [] ⟨rfl,rfl,fun j hj=>by omega⟩ fun k zs zs' hk h=> ?_
 obtain⟨h1,h2,h3⟩:=h
 refine⟨by simp[jL,h1];omega,by simp[jL,h2];omega,fun j hj q hq=> ?_⟩
 unfold jL
 rw[dS,dS,h1,h2]
 by_cases e:j*5+q<k*5
 ·rw[if_pos e,if_pos e];exact h3 j (by omega) q hq
 ·rw[if_neg e,if_neg e]
  have:j=k:=by omega
  subst this
  rw[show j*5+q-j*5=q from by omega]
  match q,hq with
  |0,_|1,_|2,_|3,_=>rfl
theorem g9 {n:Nat} {zs:List Int} (hz:zs.length=n*5) {i j:Nat} {at_:Int} (hj:j<n) {p q:Nat} (hp:p<n) (hq:q<4):
  (mS zs i at_ j).getD (p*5+q) 0=if p=j then elE zs i j at_ q else zs.getD (p*5+q) 0:=by
 unfold mS lI KP
 by_cases e:p=j
 ·subst e
  rw[if_pos rfl]
  match q,hq with
  |0,_=>
   rw[bD,if_neg (by omega),bD,if_neg (by omega),bD,if_neg (by omega),bD,if_neg (by omega),bD,if_pos ⟨by omega,by omega⟩]
  |1,_=>
   rw[bD,if_neg (by omega),bD,if_neg (by omega),bD,if_neg (by omega),bD,if_pos ⟨by omega,by simp;omega⟩]
  |2,_=>
   rw[bD,if_neg (by omega),bD,if_neg (by omega),bD,if_pos ⟨by omega,by simp;omega⟩]
  |3,_=>
   rw[bD,if_neg (by omega),bD,if_pos ⟨by omega,by simp;omega⟩]
 ·rw[if_neg e]
  rw[bD,if_neg (by omega),bD,if_neg (by omega),bD,if_neg (by omega),bD,if_neg (by omega),bD,if_neg (by omega)]
theorem CW {n i j:Nat} {at_:Int} {zs zs':List Int} (h:f9 n zs zs') (hi:i<n) (hj:j<n) (ha:bet at_ 0 3=true):f9 n (jG i at_ j zs) (jG i at_ j zs'):=by
 have ha':=bN.1 ha
 obtain⟨h1,h2,h3⟩:=h
 have hc:elC zs at_ j=elC zs' at_ j:=by
  unfold elC
  rw[Nat.mul_one]
  exact h3 j hj _ (by omega)
 unfold jG
 rw[hc]
 cases ((j:Int)!=(i:Int))&&(elC zs' at_ j !=0)
 ·exact⟨h1,h2,h3⟩
 ·refine⟨by rw[cond_true,kT];exact h1,by rw[cond_true,kT];exact h2,fun p hp q hq=> ?_⟩
  rw[cond_true,cond_true,g9 h1 hj hp hq,g9 h2 hj hp hq]
  split
  ·unfold elE;rw[h3 j hj q hq,h3 i hi q hq,hc]
  ·exact h3 p hp q hq
theorem CU {n i:Nat} {at_:Int} {zs zs':List Int} (h:f9 n zs zs') (hi:i<n) (ha:bet at_ 0 3=true):f9 n (vQ n i at_ zs) (vQ n i at_ zs'):=
 wG (fun _ zs zs'=>f9 n zs zs') n zs zs' h fun j zs zs' hj h=>CW h hi hj ha
theorem nM {n:Nat}: ∀(f i:Nat) {zs zs':List Int},f9 n zs zs'→i+f≤n→hB n f i zs'=true→hB n f i zs=true∧f9 n (bH (lE n) f i zs) (bH (lE n) f i zs')
 |0,i,zs,zs',h,_,_=>⟨rfl,h⟩
 |f+1,i,zs,zs',h,hi,hr=>by
  simp only[hB,Bool.and_eq_true,rpS]at hr⊢
  have hl:=h.ld (i:=i) (by omega)
  have h':f9 n (lE n i zs) (lE n i zs'):=by
   unfold lE;rw[hl];exact CU h (by omega) hr.1
  have:=nM f (i+1) h' (by omega) hr.2
  rw[hl]
  exact⟨⟨hr.1,this.1⟩,this.2⟩
theorem u9 {k:Int} {w w' v:List Int} (h:dO k w' v=true):dO k w v=true∧f9 (spK k v).2.length (eE k w v) (eE k w' v):=by
 simp only[dO,Bool.and_eq_true,rpS,K6]at h⊢
 have t:=DK w w' v (spK k v).1 (spK k v).2.length
 have r:=nM _ 0 t (by omega) h.1
 refine⟨⟨r.1, ?_⟩,r.2⟩
 refine mO fun i hi=> ?_
 have hl:=f9.ld (zs:=eE k w v) (zs':=eE k w' v) r.2 hi
 rw[hl]
 exact aX h.2 i hi
def eR (m:Nat):List Bool:=[m.testBit 0,m.testBit 1,m.testBit 2,m.testBit 3,m.testBit 4,m.testBit 5,m.testBit 6,m.testBit 7]
def z8:List Int:=[0,0,0,0,0,0,0,0]
def zE (b:Bool) (n:Nat):Nat:=bif b then n else 0
theorem tG (c:List Bool) (h:c.length=8): ∃m,m<256∧eR m=c:=by
 match c,h with
 |[a,b,c,d,e,f,g,h],_=>
  refine⟨zE a 1+zE b 2+zE c 4+zE d 8+zE e 16+zE f 32+zE g 64+zE h 128, ?_, ?_⟩
  ·cases a<;>cases b<;>cases c<;>cases d<;>cases e<;>cases f<;>cases g<;>cases h<;>decide
  ·cases a<;>cases b<;>cases c<;>cases d<;>cases e<;>cases f<;>cases g<;>cases h<;>decide
end
end Go.Proofs.YtdnfojanjejdgaaGreat.Am
