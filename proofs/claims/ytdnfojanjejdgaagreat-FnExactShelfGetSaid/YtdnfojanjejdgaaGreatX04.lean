/- DERIVED. Part 4 of the proof: C24, Am30, C25, C26, C27, Am31, C28, C29, C30, C31, C32, C33, P1. No statement of the program is proved here. -/
import Derived.Test.YtdnfojanjejdgaaGreatX03
set_option linter.unusedSimpArgs false
set_option linter.unusedVariables false
set_option linter.unusedSectionVars false
set_option linter.defProp false
namespace Go.Proofs.YtdnfojanjejdgaaGreat.Am
section
def T21:List aZ:=[⟨221,[],nm y0⟩]++T20
theorem e21:aA Tryz.prog T21:=by
 refine aA.append ?_ e20
 intro e he
 simp only[List.mem_cons,List.not_mem_nil,or_false]at he
 subst he;exact aAL.ok
theorem t21:bL Tryz.prog (aH T21):=aQ e21
noncomputable abbrev f121:=Tryz.f217
noncomputable def lA (k:Int) (w v d:List Int) (i:Int):St:=
 aS f121.ntmps [(0,.c (.int .i64 k)),(1,.c (.view none (.ints .i64 w) w.length 1 none)),(7,.c (.ptr 0 0 0 0)),(14,.c (.view none (.ints .i64 v) v.length 1 none)),(15,.c (.int .i64 v.length)),(16,.c (.int .i64 i))]
  [.live (.ints .i64 [d.getD 0 0,d.getD 1 0,d.getD 2 0,d.getD 3 0])]
noncomputable def KV:St:=aS f121.ntmps [] []
noncomputable def L3:St:=aS f121.ntmps [(6,.c (.bool false))] []
def z0 (k:Int) (w v d:List Int) (i:Int):=E6 (bH k (v.getD i.toNat 0)) (aM tt (aH T21) ([]) 0 100 (aC 0 (aB f121)) (lA k w v d i)) (v.getD i.toNat 0) (aK 0 (aE f121 0) (aG f121 0)) (↑v.length:Int) (d.getD 0 0) (d.getD 1 0) (d.getD 2 0) (d.getD 3 0) (↑w.length:Int) (P:=fun q0 q1 q2 q3 q4 q5 q6 q7 q8 q9=>q3 (q1 [(0,true),(0,true)])=
  some (.ret,(decide (i<q4)&&(decide (0≤i)&&(decide (i<q4)&&(decide (i.toNat<v.length)&&(bet k 1 2&&(bet q2 0 7&&(fok (q0.getD 0 0)&&(fok q5&&(fok (q0.getD 1 0)&&(fok q6&&(fok (q0.getD 2 0)&&(fok q7&&(fok (q0.getD 3 0)&&(fok q8&&(decide (0≤v.getD i.toNat 0)&&(decide (v.getD i.toNat 0<q9)&&(decide (q2.toNat<w.length)&&((EB (q0.getD 0 0) (q0.getD 1 0) (q0.getD 2 0) (q0.getD 3 0) q5 q6 q7 q8 !=w.getD q2.toNat 0)&&true)))))))))))))))))),[],L3)∧q3 (q1 [(0,true),(0,false)])=
  some (.normal,(decide (i<q4)&&(decide (0≤i)&&(decide (i<q4)&&(decide (i.toNat<v.length)&&(bet k 1 2&&(bet q2 0 7&&(fok (q0.getD 0 0)&&(fok q5&&(fok (q0.getD 1 0)&&(fok q6&&(fok (q0.getD 2 0)&&(fok q7&&(fok (q0.getD 3 0)&&(fok q8&&(decide (0≤v.getD i.toNat 0)&&(decide (v.getD i.toNat 0<q9)&&(decide (q2.toNat<w.length)&&((!EB (q0.getD 0 0) (q0.getD 1 0) (q0.getD 2 0) (q0.getD 3 0) q5 q6 q7 q8 !=w.getD q2.toNat 0)&&true)))))))))))))))))),[],lA k w v d (IntKind.i64.wrap (i+1)))∧q3 (q1 [(0,false)])=
  some (.exit 0,((!decide (i<q4))&&true),[],KV)) ⟨by kernel_rfl,by kernel_rfl,by kernel_rfl⟩
def V8 (k:Int) (w v d:List Int) (i:Int):=(z0 k w v d i).1
def V9 (k:Int) (w v d:List Int) (i:Int):=(z0 k w v d i).2.1
def VA (k:Int) (w v d:List Int) (i:Int):=(z0 k w v d i).2.2
def yN (k:Int) (w v d:List Int) (i:Nat):Bool:= !(dS k d (v.getD i 0)!=w.getD (v.getD i 0).toNat 0)
def cH (k:Int) (w v:List Int):Bool:=cL (yN k w v (eR k w v)) v.length 0
theorem kG {k a:Int} (hk:bet k 1 2=true) (ha:bet a 0 7=true):aD (bH k a)=true:=by
 refine MD (q:=fun k a=>aD (bH k a)=true) (fun i hi=> ?_) hk ha
 have all:cN (fun k=>aD (bH ((k/8:Nat)+1:Int) (k%8:Nat))) 16=true:=by kernel_rfl
 exact aX all i hi
theorem GA (k:Int) (d:List Int) (a:Int):EB ((bH k a).getD 0 0) ((bH k a).getD 1 0) ((bH k a).getD 2 0) ((bH k a).getD 3 0) (d.getD 0 0) (d.getD 1 0) (d.getD 2 0) (d.getD 3 0)=dS k d a:=rfl
theorem a8Y (k:Int) (w v d:List Int) (hk:bet k 1 2=true) (hv:v.length≤8) (hs:bD v=true) (hw:w.length=8) (hd:aD d=true):
  aP none Tryz.prog 0 (.block 0 (.loop (aC 0 (aB f121)))) (lA k w v d 0) fun e t=>e=(bif cL (yN k w v d) v.length 0 then .normal else .ret)∧t=bif cL (yN k w v d) v.length 0 then KV else L3:=by
 have common: ∀i,i<v.length→bet (v.getD i 0) 0 7=true∧aD (bH k (v.getD i 0))=true:=fun i hi=>⟨dA hs hi,kG hk (dA hs hi)⟩
 refine aP.all (ro:=none) hT t21 bE v.length (yN k w v d) (fun i=>lA k w v d i) KV L3 .ret (.inr rfl) (aE f121 0) (aG f121 0) (fun _=>[]) (fun _ _=>aL.nil) (fun i hi h=> ?_) (fun i hi h=> ?_)
  ⟨_,_,⟨_,_,VA k w v d v.length,by simp,by simp⟩⟩
 ·obtain⟨h1,h2⟩:=common i hi
  have h3:=bQ.1 h1
  have e:=V9 k w v d i
  simp only[GA]at e
  rw[aF (by omega) (by omega),Int.toNat_natCast]at e
  refine⟨_,_,⟨_,_,e, ?_,by simp⟩⟩
  unfold yN at h
  simp only[h,hk,h1,aU h2,aU hd,Bool.true_and,rpS,Bool.and_true,Bool.and_eq_true,decide_eq_true_eq]
  omega
 ·obtain⟨h1,h2⟩:=common i hi
  have h3:=bQ.1 h1
  have e:=V8 k w v d i
  simp only[GA]at e
  rw[Int.toNat_natCast]at e
  refine⟨_,_,⟨_,_,e, ?_,by simp⟩⟩
  unfold yN at h
  rw[Bool.not_eq_false']at h
  simp only[h,hk,h1,aU h2,aU hd,Bool.true_and,rpS,Bool.and_true,Bool.and_eq_true,decide_eq_true_eq]
  omega
theorem XN (k:Int) (w v:List Int):aJ tt (aH T21) ([(0,⟨aE f121 0,lA k w v (eR k w v) 0,.normal,KV⟩)]) 100 f121 [.c (.int .i64 k),.c (.view none (.ints .i64 w) w.length 1 none),.c (.view none (.ints .i64 v) v.length 1 none)] [] []=
  some ⟨.c (.bool true),[],(decide (v.length≤8)&&(bet k 1 2&&(bD v&&(decide (w.length=8)&&(aD w&&((dU k w v)&&true)))))),[lA k w v (eR k w v) 0=lA k w v (eR k w v) 0]⟩:=by kernel_rfl
theorem RH (k:Int) (w v:List Int):aJ tt (aH T21) ([(0,⟨aE f121 0,lA k w v (eR k w v) 0,.ret,L3⟩)]) 100 f121 [.c (.int .i64 k),.c (.view none (.ints .i64 w) w.length 1 none),.c (.view none (.ints .i64 v) v.length 1 none)] [] []=
  some ⟨.c (.bool false),[],(decide (v.length≤8)&&(bet k 1 2&&(bD v&&(decide (w.length=8)&&(aD w&&((dU k w v)&&true)))))),[lA k w v (eR k w v) 0=lA k w v (eR k w v) 0]⟩:=by kernel_rfl
def CW:aO:=fun args h=>
 match args,h with
 |[.c (.int .i64 k),.c (.view _ (.ints .i64 w) n 1 _),.c (.view _ (.ints .i64 v) n2 1 _)],[]=>
  some (.c (.bool (cH k w v)),[],[decide (v.length≤8),bet k 1 2,bD v,decide (w.length=8),aD w,dU k w v])
 |_,_=>none
theorem C5 {k:Int} {w v:List Int} (hk:bet k 1 2=true) (hv:bD v=true):aD (eR k w v)=true:=by
 obtain⟨s1,s2,s3⟩:=zO hk hv
 have t1:=CH (w:=w) (v:=v) s3 (spK k v).2.length
 have t2:(eF k w v).length=(spK k v).2.length*5∧aD (eF k w v)=true:=aY (step:=lG (spK k v).2.length) (fun _ zs=>zs.length=(spK k v).2.length*5∧aD zs=true) _ _ t1 fun i zs _ h=>sZ h
 exact MH t2.2 _
theorem aA9:aT Tryz.prog 217 CW:=by
 intro args h res h' o hnorm he ho
 unfold CW at he
 split at he
 case h_2=>cases he
 rename_i k nl w n cap nl2 v n2 cap2
 simp only[Option.some.injEq,Prod.mk.injEq]at he
 obtain⟨rfl,rfl,rfl⟩:=he
 simp only[List.mem_cons,List.not_mem_nil,or_false,forall_eq_or_imp,forall_eq,decide_eq_true_eq]at ho
 obtain⟨o1,o2,o3,o4,o5,o6⟩:=ho
 simp only[b8,AV.norm,bA,aI.norm,Con.size,List.cons.injEq,AV.c.injEq,AV.agg.injEq,aI.view.injEq,aN,true_and,and_true]at hnorm
 obtain⟨⟨rfl,rfl,rfl⟩,rfl,rfl,rfl⟩:=hnorm
 have g:=a8Y k w v (eR k w v) o2 o1 o3 o4 (C5 o2 o3)
 unfold cH
 cases hx:cL (yN k w v (eR k w v)) v.length 0 with
 |true=>
  rw[hx]at g
  exact cA t21 (fn:=f121) (lc:=[(0,⟨aE f121 0,lA k w v (eR k w v) 0,.normal,KV⟩)]) (fuel:=100) (p:=[]) (o:=⟨_,_,_,[lA k w v (eR k w v) 0=lA k w v (eR k w v) 0]⟩)
   (by kernel_rfl) (by kernel_rfl) (XN k w v) (by simp[o1,o2,o3,o4,o5,o6]) (by simp) (fun cc hc=>aL.cons (c:=cc) (by cases hc;kernel_rfl) (by cases hc;exact g) aL.nil)
 |false=>
  rw[hx]at g
  exact cA t21 (fn:=f121) (lc:=[(0,⟨aE f121 0,lA k w v (eR k w v) 0,.ret,L3⟩)]) (fuel:=100) (p:=[]) (o:=⟨_,_,_,[lA k w v (eR k w v) 0=lA k w v (eR k w v) 0]⟩)
   (by kernel_rfl) (by kernel_rfl) (RH k w v) (by simp[o1,o2,o3,o4,o5,o6]) (by simp) (fun cc hc=>aL.cons (c:=cc) (by cases hc;kernel_rfl) (by cases hc;exact g) aL.nil)
end
section
theorem CR0.nilCases {w:World} {L:Nat→Prop} {ρ:Rho} {c:Con} {len es:Nat} {cap:Option Nat} {v:Value} (h:CR0 w L ρ (.view none c len es cap) v):
  CR0 w L ρ (.view (some false) c len es cap) v∨(c.size=0∧CR0 w L ρ (.view (some true) c len es cap) v):=by
 cases h with
 |view nl c len es cap b base k u hl hc hu hz hk hcap hnl=>exact .inl (.view _ c len es cap b base k u hl hc hu hz hk hcap fun x h=>by injection h with h;exact h.symm)
 |viewNone nl c es cap a k hz hcap hnl hk=>
  cases a with
  |none=>exact .inr ⟨hz,.viewNone _ c es cap none k hz hcap (fun x h=>by injection h with h;exact h.symm) hk⟩
  |some a=>exact .inl (.viewNone _ c es cap (some a) k hz hcap (fun x h=>by injection h with h;exact h.symm) hk)
theorem bF.nilCases {P:Program} {f:FuncId} {c:Con} {len es:Nat} {cap:Option Nat} {h h':List aV} {res:AV} (h1:bF P f [.c (.view (some false) c len es cap)] h res h')
  (h2:c.size=0→bF P f [.c (.view (some true) c len es cap)] h res h'):bF P f [.c (.view none c len es cap)] h res h':=by
 refine⟨h1.1,fun {X w0 ρ0} m vs hl hv=> ?_⟩
 have h0:=hv 0 (by simp)
 simp only[List.getD_cons_zero]at h0
 cases h0 with
 |c x v hx=>
  rcases CR0.nilCases hx with hx|⟨hz,hx⟩
  ·exact h1.2 m vs hl fun q hq=>by
    match q,hq with
    |0,_=>exact .c _ _ hx
  ·exact(h2 hz).2 m vs hl fun q hq=>by
    match q,hq with
    |0,_=>exact .c _ _ hx
theorem Mem.addNil {X:Nat→Prop} {w0 w:World} {M:Nat→Prop} {h:List aV} {ρ:Rho} (m:Mem X w0 M h ρ w) {c0:Con} (hc:c0.size=0):
  ρ h.length=.unborn∧Mem X w0 M (h++[.live c0]) (upd ρ h.length .nil) w:=by
 have hun:ρ h.length=.unborn:=by
  have hs:=m.slot h.length
  rw[Heap.get_ge (Nat.le_refl _)]at hs
  cases hx:ρ h.length<;>rw[hx]at hs<;>first|rfl|exact hs.elim
 have mo:=gQ w hun
 refine⟨hun,⟨fun id=> ?_,fun i j b hi hj=> ?_,fun id b hb=> ?_,m.os,m.tape,m.output,m.size,m.keep,m.foreign⟩⟩
 ·by_cases e:id=h.length
  ·subst e
   have:Heap.get (h++[.live c0]) h.length=.live c0:=by
    unfold Heap.get
    rw[List.getD_eq_getElem?_getD,List.getElem?_append_right (by omega)];simp
   rw[this,aW];exact hc
  ·have hg:Heap.get (h++[.live c0]) id=Heap.get h id:=by
    unfold Heap.get
    rw[List.getD_eq_getElem?_getD,List.getD_eq_getElem?_getD,List.getElem?_append]
    split
    ·rfl
    ·rw[List.getElem?_eq_none (l:=h) (by omega),List.getElem?_eq_none (by simp;omega)]
   rw[hg,bK _ _ e]
   exact(m.slot id).mono mo fun _ _=>rfl
 ·by_cases e:i=h.length
  ·subst e;rw[aW]at hi;cases hi
  ·by_cases e':j=h.length
   ·subst e';rw[aW]at hj;cases hj
   ·rw[bK _ _ e]at hi;rw[bK _ _ e']at hj
    exact m.inj i j b hi hj
 ·by_cases e:id=h.length
  ·subst e;rw[aW]at hb;cases hb
  ·rw[bK _ _ e]at hb;exact m.own id b hb
theorem bF.nils {P:Program} {f:FuncId} {args:List AV} {h h':List aV} {es:Nat} {c0:Con} (hm:bF P f args h (.c .nils) h') (hc:c0.size=0):
  bF P f args h (.c (.sl h'.length 0 0 es none)) (h'++[.live c0]):=by
 refine⟨hm.1,fun {X w0 ρ0} m vs hl hv=> ?_⟩
 refine Calls.mono (hm.2 m vs hl hv) ?_
 rintro e w' ⟨v,ρ',rfl,mb,im,m',hr⟩
 obtain⟨hun,m2⟩:=m'.addNil hc
 have mo:=gQ w' hun
 refine⟨v,_,rfl,mb.trans mo.toB,im.trans mo.ids,m2, ?_⟩
 cases hr with
 |c x v hx=>exact .c _ _ (iQ hx)
end
section
noncomputable def T22:List aZ:=[⟨217,[],nm CW⟩]++T21
theorem e22:aA Tryz.prog T22:=by
 refine aA.append ?_ e21
 intro e he
 simp only[List.mem_cons,List.not_mem_nil,or_false]at he
 subst he;exact aA9.ok
theorem t22:bL Tryz.prog (aH T22):=aQ e22
def zT (k:Int) (w v:List Int):=bt2 (aJ tt (aH T22) ([]) 100 Tryz.f183 [.c (.int .i64 k),.c (.view none (.ints .i64 w) w.length 1 none),.c (.view none (.ints .i64 v) v.length 1 none)] []) (eR k w v) (P:=fun q0 q1=>q0 [(0,true)]=
  some ⟨.tup [.c .nils,.c (.bool false)],[],(decide (v.length≤8)&&(bet k 1 2&&(bD v&&(rp5 (!c8 k v) ((!c8 k v)&&true))))),[]⟩∧q0 [(0,false),(0,true)]=
  some ⟨.tup [.c .nils,.c (.bool false)],[],(decide (v.length≤8)&&(bet k 1 2&&(bD v&&(rp4 (!!c8 k v) (decide (v.length≤8)&&(bet k 1 2&&(bD v&&(decide (w.length=8)&&(aD w&&(dU k w v&&(!!c8 k v&&((bif !c8 k v then true else !cH k w v)&&true)))))))))))),[]⟩∧q0 [(0,false),(0,false)]=
  some ⟨.tup [.c (.sl 0 0 4 1 none),.c (.bool true)],[.live (.ints .i64 [q1.getD 0 0,q1.getD 1 0,q1.getD 2 0,q1.getD 3 0])],(decide (v.length≤8)&&(bet k 1 2&&(bD v&&(rp4 (!!c8 k v) (decide (v.length≤8)&&(bet k 1 2&&(bD v&&(decide (w.length=8)&&(aD w&&(dU k w v&&(!!c8 k v&&((!bif !c8 k v then true else !cH k w v)&&(decide (v.length≤8)&&(bet k 1 2&&(bD v&&(decide (w.length=8)&&(aD w&&((dU k w v)&&true)))))))))))))))))),[]⟩) ⟨by kernel_rfl,by kernel_rfl,by kernel_rfl⟩
def XH (k:Int) (w v:List Int):=(zT k w v).1
def XI (k:Int) (w v:List Int):=(zT k w v).2.1
def XJ (k:Int) (w v:List Int):=(zT k w v).2.2
def FR:aO:=fun args h=>
 match args,h with
 |[.c (.int .i64 k),.c (.view _ (.ints .i64 w) n 1 _),.c (.view _ (.ints .i64 v) n2 1 _)],[]=>
  some (.tup [.c (.sl 0 0 4 1 none),.c (.bool true)],[.live (.ints .i64 [(eR k w v).getD 0 0,(eR k w v).getD 1 0,(eR k w v).getD 2 0,(eR k w v).getD 3 0])],[decide (v.length≤8),bet k 1 2,bD v,decide (w.length=8),aD w,dU k w v,c8 k v,cH k w v])
 |_,_=>none
theorem a9Z:aT Tryz.prog 183 FR:=by
 intro args h res h' o hnorm he ho
 unfold FR at he
 split at he
 case h_2=>cases he
 rename_i k nl w n cap nl2 v n2 cap2
 simp only[Option.some.injEq,Prod.mk.injEq]at he
 obtain⟨rfl,rfl,rfl⟩:=he
 simp only[List.mem_cons,List.not_mem_nil,or_false,forall_eq_or_imp,forall_eq,decide_eq_true_eq]at ho
 obtain⟨o1,o2,o3,o4,o5,o6,o7,o8⟩:=ho
 simp only[b8,AV.norm,bA,aI.norm,Con.size,List.cons.injEq,AV.c.injEq,AV.agg.injEq,aI.view.injEq,aN,true_and,and_true]at hnorm
 obtain⟨⟨rfl,rfl,rfl⟩,rfl,rfl,rfl⟩:=hnorm
 exact mo t22 (XJ k w v) (by simp[o1,o2,o3,o4,o5,o6,o7,o8])
def FQ:aO:=fun args h=>
 match args,h with
 |[.c (.int .i64 k),.c (.view _ (.ints .i64 w) n 1 _),.c (.view _ (.ints .i64 v) n2 1 _)],[]=>
  some (.tup [.c .nils,.c (.bool false)],[],[decide (v.length≤8),bet k 1 2,bD v,decide (w.length=8),aD w,dU k w v, !(c8 k v&&cH k w v)])
 |_,_=>none
theorem a1O:aT Tryz.prog 183 FQ:=by
 intro args h res h' o hnorm he ho
 unfold FQ at he
 split at he
 case h_2=>cases he
 rename_i k nl w n cap nl2 v n2 cap2
 simp only[Option.some.injEq,Prod.mk.injEq]at he
 obtain⟨rfl,rfl,rfl⟩:=he
 simp only[List.mem_cons,List.not_mem_nil,or_false,forall_eq_or_imp,forall_eq,decide_eq_true_eq]at ho
 obtain⟨o1,o2,o3,o4,o5,o6,o7⟩:=ho
 simp only[b8,AV.norm,bA,aI.norm,Con.size,List.cons.injEq,AV.c.injEq,AV.agg.injEq,aI.view.injEq,aN,true_and,and_true]at hnorm
 obtain⟨⟨rfl,rfl,rfl⟩,rfl,rfl,rfl⟩:=hnorm
 cases hb:c8 k v with
 |false=>exact mo t22 (XH k w v) (by simp[o1,o2,o3,hb])
 |true=>
  have hf:cH k w v=false:=by rw[hb]at o7;simpa using o7
  exact mo t22 (XI k w v) (by simp[o1,o2,o3,o4,o5,o6,hb,hf])
theorem YY (v:List Int):aJ tt (aH T22) ([]) 100 Tryz.f167 [.c (.view (some false) (.ints .i64 v) v.length 1 none)] [] []=
  some ⟨.c (.sl 0 0 (0+v.length) 1 none),[.live (.ints .i64 ([]++v))],((decide (0+v.length≤274877906944))&&true),[]⟩:=by kernel_rfl
theorem YZ (v:List Int):aJ tt (aH T22) ([]) 100 Tryz.f167 [.c (.view (some true) (.ints .i64 v) v.length 1 none)] [] []=
  some ⟨.c .nils,[],true,[]⟩:=by kernel_rfl
def oG:aO:=fun args h=>
 match args,h with
 |[.c (.view _ (.ints .i64 v) n 1 _)],[]=>
  some (.c (.sl 0 0 v.length 1 none),[.live (.ints .i64 v)],[decide (v.length≤274877906944)])
 |_,_=>none
theorem m64:aT Tryz.prog 167 oG:=by
 intro args h res h' o hnorm he ho
 unfold oG at he
 split at he
 case h_2=>cases he
 rename_i nl v n cap
 simp only[Option.some.injEq,Prod.mk.injEq]at he
 obtain⟨rfl,rfl,rfl⟩:=he
 simp only[List.mem_cons,List.not_mem_nil,or_false,forall_eq_or_imp,forall_eq,decide_eq_true_eq]at ho
 have o1:=ho
 simp only[b8,AV.norm,bA,aI.norm,Con.size,List.cons.injEq,AV.c.injEq,AV.agg.injEq,aI.view.injEq,aN,true_and,and_true]at hnorm
 obtain⟨rfl,rfl,rfl⟩:=hnorm
 refine bF.nilCases ?_ fun hz=> ?_
 ·have e:=YY v
  simp only[Nat.zero_add]at e
  exact mo t22 e (by simp[o1])
 ·have hv:v=[]:=List.eq_nil_of_length_eq_zero hz
  subst hv
  exact bF.nils (c0:=.ints .i64 []) (mo t22 (YZ []) (by simp)) rfl
theorem RI (v:List Bool):aJ tt (aH T22) ([]) 100 Tryz.f150 [.c (.view (some false) (.bools v) v.length 1 none)] [] []=
  some ⟨.c (.sl 0 0 (0+v.length) 1 none),[.live (.bools ([]++v))],((decide (0+v.length≤274877906944))&&true),[]⟩:=by kernel_rfl
theorem RJ (v:List Bool):aJ tt (aH T22) ([]) 100 Tryz.f150 [.c (.view (some true) (.bools v) v.length 1 none)] [] []=
  some ⟨.c .nils,[],true,[]⟩:=by kernel_rfl
def lZ:aO:=fun args h=>
 match args,h with
 |[.c (.view _ (.bools v) n 1 _)],[]=>
  some (.c (.sl 0 0 v.length 1 none),[.live (.bools v)],[decide (v.length≤274877906944)])
 |_,_=>none
theorem aAD:aT Tryz.prog 150 lZ:=by
 intro args h res h' o hnorm he ho
 unfold lZ at he
 split at he
 case h_2=>cases he
 rename_i nl v n cap
 simp only[Option.some.injEq,Prod.mk.injEq]at he
 obtain⟨rfl,rfl,rfl⟩:=he
 simp only[List.mem_cons,List.not_mem_nil,or_false,forall_eq_or_imp,forall_eq,decide_eq_true_eq]at ho
 have o1:=ho
 simp only[b8,AV.norm,bA,aI.norm,Con.size,List.cons.injEq,AV.c.injEq,AV.agg.injEq,aI.view.injEq,aN,true_and,and_true]at hnorm
 obtain⟨rfl,rfl,rfl⟩:=hnorm
 refine bF.nilCases ?_ fun hz=> ?_
 ·have e:=RI v
  simp only[Nat.zero_add]at e
  exact mo t22 e (by simp[o1])
 ·have hv:v=[]:=List.eq_nil_of_length_eq_zero hz
  subst hv
  exact bF.nils (c0:=.bools []) (mo t22 (RJ []) (by simp)) rfl
theorem ZV:aR Tryz.prog 166 (dW tt (aH T22) Tryz.f166 []):=cJ hT t22 bE [] (by kernel_rfl) (by kernel_rfl)
theorem ZU:aR Tryz.prog 149 (dW tt (aH T22) Tryz.f149 []):=cJ hT t22 bE [] (by kernel_rfl) (by kernel_rfl)
noncomputable def T23:List aZ:=[⟨167,[],nm oG⟩,⟨150,[],nm lZ⟩,⟨166,[0],dW tt (aH T22) Tryz.f166 []⟩,⟨149,[0],dW tt (aH T22) Tryz.f149 []⟩]++T22
theorem e23:aA Tryz.prog T23:=by
 refine aA.append ?_ e22
 intro e he
 simp only[List.mem_cons,List.not_mem_nil,or_false]at he
 rcases he with rfl|rfl|rfl|rfl
 ·exact m64.ok
 ·exact aAD.ok
 ·exact ZV
 ·exact ZU
theorem t23:bL Tryz.prog (aH T23):=aQ e23
def FI (k:Int) (a b:List Int) (c:List Bool):=bt3 (aJ tt (aH T22) ([]) 100 Tryz.f178 [.agg [.int .i64 k,.view none (.ints .i64 a) a.length 1 none,.view none (.ints .i64 b) b.length 1 none,.view none (.bools c) c.length 1 none]] []) (↑a.length:Int) (↑b.length:Int) (P:=fun q0 q1 q2=>q0 [(0,true),(0,true)]=
  some ⟨.c (.bool (bif bif q1==8 then q2==8 else false then(↑c.length:Int)==8 else false)),[],(rp4 (q1==8) (rp4 (bif q1==8 then q2==8 else false) true)),[]⟩∧q0 [(0,true),(0,false)]=
  some ⟨.c (.bool false),[],(rp4 (q1==8) (rp5 (!bif q1==8 then q2==8 else false) true)),[]⟩∧q0 [(0,false)]=
  some ⟨.c (.bool false),[],(rp5 (!q1==8) true),[]⟩) ⟨by kernel_rfl,by kernel_rfl,by kernel_rfl⟩
def a6L (k:Int) (a b:List Int) (c:List Bool):=(FI k a b c).1
def a6M (k:Int) (a b:List Int) (c:List Bool):=(FI k a b c).2.1
def a6N (k:Int) (a b:List Int) (c:List Bool):=(FI k a b c).2.2
def d5 (a b:List Int) (c:List Bool):Bool:=((a.length:Int)==8)&&((b.length:Int)==8)&&((c.length:Int)==8)
def sC:aO:=fun args h=>
 match args,h with
 |[.agg [.int .i64 k,.view _ (.ints .i64 a) n1 1 _,.view _ (.ints .i64 b) n2 1 _,.view _ (.bools c) n3 1 _]],[]=>
  some (.c (.bool (d5 a b c)),[],[])
 |_,_=>none
theorem m70:aT Tryz.prog 178 sC:=by
 intro args h res h' o hnorm he ho
 unfold sC at he
 split at he
 case h_2=>cases he
 rename_i k nl1 a n1 cap1 nl2 b n2 cap2 nl3 c n3 cap3
 simp only[Option.some.injEq,Prod.mk.injEq]at he
 obtain⟨rfl,rfl,rfl⟩:=he
 simp only[b8,AV.norm,bA,aI.norm,Con.size,List.cons.injEq,AV.c.injEq,AV.agg.injEq,aI.view.injEq,aN,true_and,and_true]at hnorm
 obtain⟨⟨rfl,rfl,rfl⟩,⟨rfl,rfl,rfl⟩,rfl,rfl,rfl⟩:=hnorm
 unfold d5
 cases ha:(a.length:Int)==8 with
 |false=>exact mo t22 (a6N k a b c) (by simp[ha,-beq_eq_false_iff_ne])
 |true=>
  cases hb:(b.length:Int)==8 with
  |false=>exact mo t22 (a6M k a b c) (by simp only[ha,hb];rfl)
  |true=>
   have e:=mo (f:=178) t22 (a6L k a b c) (by simp only[ha,hb];rfl)
   simp only[ha,hb,cond_true]at e
   exact e
theorem a70 (k:Int) (a b:List Int) (c:List Bool):aJ tt (aH T23) ([]) 100 Tryz.f173 [.agg [.int .i64 k,.view none (.ints .i64 a) a.length 1 none,.view none (.ints .i64 b) b.length 1 none,.view none (.bools c) c.length 1 none]] [] []=
  some ⟨.agg [.int .i64 k,.sl 0 0 (↑a.length:Int).toNat 1 none,.sl 1 0 (↑b.length:Int).toNat 1 none,.sl 2 0 (↑c.length:Int).toNat 1 none],[.live (.ints .i64 a),.live (.ints .i64 b),.live (.bools c)],(decide (a.length≤274877906944)&&((rp2 (decide ((↑a.length:Int)≤(↑a.length:Int))) true)&&(decide (b.length≤274877906944)&&((rp2 (decide ((↑b.length:Int)≤(↑b.length:Int))) true)&&(decide (c.length≤274877906944)&&((rp2 (decide ((↑c.length:Int)≤(↑c.length:Int))) true)&&true)))))),[]⟩:=by kernel_rfl
def s7:aO:=fun args h=>
 match args,h with
 |[.agg [.int .i64 k,.view _ (.ints .i64 a) n1 1 _,.view _ (.ints .i64 b) n2 1 _,.view _ (.bools c) n3 1 _]],[]=>
  some (.agg [.int .i64 k,.sl 0 0 a.length 1 none,.sl 1 0 b.length 1 none,.sl 2 0 c.length 1 none],[.live (.ints .i64 a),.live (.ints .i64 b),.live (.bools c)],[decide (a.length≤274877906944),decide (b.length≤274877906944),decide (c.length≤274877906944)])
 |_,_=>none
theorem m99:aT Tryz.prog 173 s7:=by
 intro args h res h' o hnorm he ho
 unfold s7 at he
 split at he
 case h_2=>cases he
 rename_i k nl1 a n1 cap1 nl2 b n2 cap2 nl3 c n3 cap3
 simp only[Option.some.injEq,Prod.mk.injEq]at he
 obtain⟨rfl,rfl,rfl⟩:=he
 simp only[List.mem_cons,List.not_mem_nil,or_false,forall_eq_or_imp,forall_eq,decide_eq_true_eq]at ho
 obtain⟨o1,o2,o3⟩:=ho
 simp only[b8,AV.norm,bA,aI.norm,Con.size,List.cons.injEq,AV.c.injEq,AV.agg.injEq,aI.view.injEq,aN,true_and,and_true]at hnorm
 obtain⟨⟨rfl,rfl,rfl⟩,⟨rfl,rfl,rfl⟩,rfl,rfl,rfl⟩:=hnorm
 exact mo t23 (a70 k a b c) (by simp[o1,o2,o3])
end
section
noncomputable def T24:List aZ:=[⟨178,[],nm sC⟩,⟨173,[],nm s7⟩]++T23
theorem e24:aA Tryz.prog T24:=by
 refine aA.append ?_ e23
 intro e he
 simp only[List.mem_cons,List.not_mem_nil,or_false]at he
 rcases he with rfl|rfl
 ·exact m70.ok
 ·exact m99.ok
theorem t24:bL Tryz.prog (aH T24):=aQ e24
theorem a66 (k:Int) (a b:List Int) (c:List Bool) (on:Bool) (kd:Int) (d:List Int) (vs:Int):aJ tt (aH T24) ([]) 100 Tryz.f128 [.agg [.int .i64 k,.view none (.ints .i64 a) a.length 1 none,.view none (.ints .i64 b) b.length 1 none,.view none (.bools c) c.length 1 none,.bool on,.int .i64 kd,.view none (.ints .i64 d) d.length 1 none,.int .i64 vs]] [] []=
  some ⟨.agg [.int .i64 k,.sl 0 0 a.length 1 none,.sl 1 0 b.length 1 none,.sl 2 0 c.length 1 none,.bool on,.int .i64 kd,.sl 3 0 (↑d.length:Int).toNat 1 none,.int .i64 vs],[.live (.ints .i64 a),.live (.ints .i64 b),.live (.bools c),.live (.ints .i64 d)],(decide (a.length≤274877906944)&&(decide (b.length≤274877906944)&&(decide (c.length≤274877906944)&&(decide (d.length≤274877906944)&&((rp2 (decide ((↑d.length:Int)≤(↑d.length:Int))) true)&&true))))),[]⟩:=by kernel_rfl
theorem aBT:aR Tryz.prog 194 (dW tt (aH T24) Tryz.f194 []):=cJ hT t24 bE [] (by kernel_rfl) (by kernel_rfl)
theorem ZX:aR Tryz.prog 130 (dW tt (aH T24) Tryz.f130 []):=cJ hT t24 bE [] (by kernel_rfl) (by kernel_rfl)
noncomputable def T25:List aZ:=[⟨194,[0],dW tt (aH T24) Tryz.f194 []⟩,⟨130,[0],dW tt (aH T24) Tryz.f130 []⟩]++T24
theorem e25:aA Tryz.prog T25:=by
 refine aA.append ?_ e24
 intro e he
 simp only[List.mem_cons,List.not_mem_nil,or_false]at he
 rcases he with rfl|rfl
 ·exact aBT
 ·exact ZX
theorem t25:bL Tryz.prog (aH T25):=aQ e25
def oI:aO:=fun args h=>
 match args,h with
 |[.agg [.int .i64 k,.view _ (.ints .i64 a) n1 1 _,.view _ (.ints .i64 b) n2 1 _,.view _ (.bools c) n3 1 _,.bool on,.int .i64 kd,.view _ (.ints .i64 d) n4 1 _,.int .i64 vs]],[]=>
  some (.agg [.int .i64 k,.sl 0 0 a.length 1 none,.sl 1 0 b.length 1 none,.sl 2 0 c.length 1 none,.bool on,.int .i64 kd,.sl 3 0 d.length 1 none,.int .i64 vs],[.live (.ints .i64 a),.live (.ints .i64 b),.live (.bools c),.live (.ints .i64 d)],[decide (a.length≤274877906944),decide (b.length≤274877906944),decide (c.length≤274877906944),decide (d.length≤274877906944)])
 |_,_=>none
theorem m48:aT Tryz.prog 128 oI:=by
 intro args h res h' o hnorm he ho
 unfold oI at he
 split at he
 case h_2=>cases he
 rename_i k nl1 a n1 cap1 nl2 b n2 cap2 nl3 c n3 cap3 on kd nl4 d n4 cap4 vs
 simp only[Option.some.injEq,Prod.mk.injEq]at he
 obtain⟨rfl,rfl,rfl⟩:=he
 simp only[List.mem_cons,List.not_mem_nil,or_false,forall_eq_or_imp,forall_eq,decide_eq_true_eq]at ho
 obtain⟨o1,o2,o3,o4⟩:=ho
 simp only[b8,AV.norm,bA,aI.norm,Con.size,List.cons.injEq,AV.c.injEq,AV.agg.injEq,aI.view.injEq,aN,true_and,and_true]at hnorm
 obtain⟨⟨rfl,rfl,rfl⟩,⟨rfl,rfl,rfl⟩,⟨rfl,rfl,rfl⟩,rfl,rfl,rfl⟩:=hnorm
 exact mo t24 (a66 k a b c on kd d vs) (by simp[o1,o2,o3,o4])
theorem X7:aR Tryz.prog 189 (dW tt (aH T25) Tryz.f189 []):=cJ hT t25 bE [] (by kernel_rfl) (by kernel_rfl)
theorem U9:aR Tryz.prog 190 (dW tt (aH T25) Tryz.f190 []):=cJ hT t25 bE [] (by kernel_rfl) (by kernel_rfl)
def qR (vs:Int) (i:Nat) (s:List Int×List Int×List Bool):List Int×List Int×List Bool:=
 bif s.2.1.getD i 0==vs then(s.1.set i 0,s.2.1.set i 0,s.2.2.set i false)else s
def bV (a b:List Int) (c:List Bool) (vs:Int):List Int×List Int×List Bool:=bI (qR vs) b.length 0 (a,b,c)
noncomputable abbrev f71:=Tryz.f179
noncomputable def I71 (k:Int) (a b a' b':List Int) (c c':List Bool) (on:Bool) (kd:Int) (d:List Int) (vs:Int) (i:Int):St:=
 aS f71.ntmps [(1,.c (.ptr 0 0 0 0)),(2,.c (.ptr 1 0 0 0)),(3,.c (.ptr 2 0 0 0)),(10,.c (.sl 3 0 b.length 1 none)),(11,.c (.int .i64 b.length)),(12,.c (.int .i64 i))]
  [.live (.cells [.int .i64 k,.view none (.ints .i64 a) a.length 1 none,.view none (.ints .i64 b) b.length 1 none,.view none (.bools c) c.length 1 none,.bool on,.int .i64 kd,.view none (.ints .i64 d) d.length 1 none,.int .i64 vs]),.live (.cells [.int .i64 0,.nils,.nils,.nils]),.live (.cells [.int .i64 k,.sl 4 0 a.length 1 none,.sl 3 0 b.length 1 none,.sl 5 0 c.length 1 none]),.live (.ints .i64 b'),.live (.ints .i64 a'),.live (.bools c')]
noncomputable def X71 (k:Int) (na nb nc:Nat) (a' b':List Int) (c':List Bool):St:=
 aS f71.ntmps [(2,.c (.ptr 0 0 0 0)),(3,.c (.ptr 1 0 0 0))]
  [.live (.cells [.int .i64 0,.nils,.nils,.nils]),.live (.cells [.int .i64 k,.sl 2 0 na 1 none,.sl 3 0 nb 1 none,.sl 4 0 nc 1 none]),.live (.ints .i64 a'),.live (.ints .i64 b'),.live (.bools c')]
theorem a35 (k:Int) (a b a' b':List Int) (c c':List Bool) (on:Bool) (kd:Int) (d:List Int) (vs:Int) (i:Int):aK 0 (aE f71 0) (aG f71 0) (aM tt (aH T25) ([]) 0 100 (aC 0 (aB f71)) (I71 k a b a' b' c c' on kd d vs i) [(0,true),(0,true)])=
  some (.normal,(decide (i<(↑b.length:Int))&&(decide (0≤i)&&(decide (i<(↑b.length:Int))&&(decide (i.toNat<b'.length)&&((b'.getD i.toNat 0==vs)&&((decide (0≤i)&&(decide (i<(↑a.length:Int))&&(decide (i.toNat<a'.length)&&(decide (0≤i)&&(decide (i<(↑b.length:Int))&&(decide (i.toNat<b'.length)&&(decide (0≤i)&&(decide (i<(↑c.length:Int))&&(decide (i.toNat<c'.length)&&true)))))))))&&true)))))),[],I71 k a b (a'.set i.toNat 0) (b'.set i.toNat 0) c (c'.set i.toNat false) on kd d vs (IntKind.i64.wrap (i+1))):=by kernel_rfl
theorem a36 (k:Int) (a b a' b':List Int) (c c':List Bool) (on:Bool) (kd:Int) (d:List Int) (vs:Int) (i:Int):aK 0 (aE f71 0) (aG f71 0) (aM tt (aH T25) ([]) 0 100 (aC 0 (aB f71)) (I71 k a b a' b' c c' on kd d vs i) [(0,true),(0,false)])=
  some (.normal,(decide (i<(↑b.length:Int))&&(decide (0≤i)&&(decide (i<(↑b.length:Int))&&(decide (i.toNat<b'.length)&&((!b'.getD i.toNat 0==vs)&&true))))),[],I71 k a b (a') (b') c (c') on kd d vs (IntKind.i64.wrap (i+1))):=by kernel_rfl
theorem a37 (k:Int) (a b a' b':List Int) (c c':List Bool) (on:Bool) (kd:Int) (d:List Int) (vs:Int) (i:Int):aK 0 (aE f71 0) (aG f71 0) (aM tt (aH T25) ([]) 0 100 (aC 0 (aB f71)) (I71 k a b a' b' c c' on kd d vs i) [(0,false)])=
  some (.exit 0,((!decide (i<(↑b.length:Int)))&&true),[],X71 k a.length b.length c.length (a') (b') (c')):=by kernel_rfl
theorem l71 (k:Int) (a b:List Int) (c:List Bool) (on:Bool) (kd:Int) (d:List Int) (vs:Int) (hb:b.length≤274877906944) (ha:a.length=b.length) (hc:c.length=b.length):
  aP none Tryz.prog 0 (.block 0 (.loop (aC 0 (aB f71)))) (I71 k a b a b c c on kd d vs 0) fun e t=>e=.normal∧t=X71 k a.length b.length c.length (bV a b c vs).1 (bV a b c vs).2.1 (bV a b c vs).2.2:=by
 refine aP.count (ro:=none) hT t25 bE b.length (fun _ s=>s.1.length=b.length∧s.2.1.length=b.length∧s.2.2.length=b.length) (fun i s=>I71 k a b s.1 s.2.1 c s.2.2 on kd d vs i)
  (fun s=>X71 k a.length b.length c.length s.1 s.2.1 s.2.2) (qR vs) (aE f71 0) (aG f71 0)
  (fun _ _=>[]) (fun _ _ _ _=>aL.nil) (fun i s hi h=> ?_) (fun s _=>⟨_,_,⟨_,_,a37 k a b s.1 s.2.1 c s.2.2 on kd d vs b.length,by simp,by simp⟩⟩) (a,b,c) ⟨ha,rfl,hc⟩
 obtain⟨a',b',c'⟩:=s
 obtain⟨h1,h2,h3⟩:=h
 dsimp only at h1 h2 h3
 unfold qR
 cases hz:b'.getD i 0==vs with
 |true=>
  refine⟨by simp[h1,h2,h3], ?_⟩
  have e:=a35 k a b a' b' c c' on kd d vs i
  rw[aF (i:=(i:Int)+1) (by omega) (by omega),Int.toNat_natCast]at e
  refine⟨_,_,⟨_,_,e, ?_,by simp⟩⟩
  simp only[hz,Bool.true_and,rpS,Bool.and_true,Bool.and_eq_true,decide_eq_true_eq]
  omega
 |false=>
  refine⟨⟨h1,h2,h3⟩, ?_⟩
  have e:=a36 k a b a' b' c c' on kd d vs i
  rw[aF (by omega) (by omega),Int.toNat_natCast]at e
  refine⟨_,_,⟨_,_,e, ?_,by simp⟩⟩
  simp only[hz,Bool.not_false,Bool.true_and,rpS,Bool.and_true,Bool.and_eq_true,decide_eq_true_eq]
  omega
theorem a6O (k:Int) (a b:List Int) (c:List Bool) (on:Bool) (kd:Int) (d:List Int) (vs:Int):aJ tt (aH T25) ([(0,⟨aE f71 0,I71 k a b a b c c on kd d vs 0,.normal,X71 k a.length b.length c.length (bV a b c vs).1 (bV a b c vs).2.1 (bV a b c vs).2.2⟩)]) 100 f71 [.agg [.int .i64 k,.view none (.ints .i64 a) a.length 1 none,.view none (.ints .i64 b) b.length 1 none,.view none (.bools c) c.length 1 none,.bool on,.int .i64 kd,.view none (.ints .i64 d) d.length 1 none,.int .i64 vs]] [] []=
  some ⟨.agg [.int .i64 k,.sl 0 0 a.length 1 none,.sl 1 0 b.length 1 none,.sl 2 0 c.length 1 none],[.live (.ints .i64 (bV a b c vs).fst),.live (.ints .i64 (bV a b c vs).2.1),.live (.bools (bV a b c vs).2.2)],(decide (a.length≤274877906944)&&(decide (b.length≤274877906944)&&((decide (c.length≤274877906944))&&true))),[I71 k a b a b c c on kd d vs 0=I71 k a b a b c c on kd d vs 0]⟩:=by kernel_rfl
def DA:aO:=fun args h=>
 match args,h with
 |[.agg [.int .i64 k,.view _ (.ints .i64 a) n1 1 _,.view _ (.ints .i64 b) n2 1 _,.view _ (.bools c) n3 1 _,.bool on,.int .i64 kd,.view _ (.ints .i64 d) n4 1 _,.int .i64 vs]],[]=>
  some (.agg [.int .i64 k,.sl 0 0 a.length 1 none,.sl 1 0 b.length 1 none,.sl 2 0 c.length 1 none],[.live (.ints .i64 (bV a b c vs).1),.live (.ints .i64 (bV a b c vs).2.1),.live (.bools (bV a b c vs).2.2)],[decide (b.length≤274877906944),decide (a.length=b.length),decide (c.length=b.length)])
 |_,_=>none
theorem m71:aT Tryz.prog 179 DA:=by
 intro args h res h' o hnorm he ho
 unfold DA at he
 split at he
 case h_2=>cases he
 rename_i k nl1 a n1 cap1 nl2 b n2 cap2 nl3 c n3 cap3 on kd nl4 d n4 cap4 vs
 simp only[Option.some.injEq,Prod.mk.injEq]at he
 obtain⟨rfl,rfl,rfl⟩:=he
 simp only[List.mem_cons,List.not_mem_nil,or_false,forall_eq_or_imp,forall_eq,decide_eq_true_eq]at ho
 obtain⟨o1,o2,o3⟩:=ho
 simp only[b8,AV.norm,bA,aI.norm,Con.size,List.cons.injEq,AV.c.injEq,AV.agg.injEq,aI.view.injEq,aN,true_and,and_true]at hnorm
 obtain⟨⟨rfl,rfl,rfl⟩,⟨rfl,rfl,rfl⟩,⟨rfl,rfl,rfl⟩,rfl,rfl,rfl⟩:=hnorm
 exact mo t25 (a6O k a b c on kd d vs) (by simp[o1,o2,o3]) (hlc:=(fun cc hc=>aL.cons (c:=cc) (by cases hc;kernel_rfl) (by cases hc;exact l71 k a b c on kd d vs o1 o2 o3) aL.nil))
end
section
noncomputable def T26:List aZ:=[⟨128,[],nm oI⟩,⟨189,[0],dW tt (aH T25) Tryz.f189 []⟩,⟨190,[0],dW tt (aH T25) Tryz.f190 []⟩,⟨179,[],nm DA⟩]++T25
theorem e26:aA Tryz.prog T26:=by
 refine aA.append ?_ e25
 intro e he
 simp only[List.mem_cons,List.not_mem_nil,or_false]at he
 rcases he with rfl|rfl|rfl|rfl
 ·exact m48.ok
 ·exact X7
 ·exact U9
 ·exact m71.ok
theorem t26:bL Tryz.prog (aH T26):=aQ e26
theorem aBR:aR Tryz.prog 224 (dW tt (aH T26) Tryz.f224 []):=cJ hT t26 bE [] (by kernel_rfl) (by kernel_rfl)
noncomputable def T27:List aZ:=[⟨224,[1,2],dW tt (aH T26) Tryz.f224 []⟩]++T26
theorem e27:aA Tryz.prog T27:=by
 refine aA.append ?_ e26
 intro e he
 simp only[List.mem_cons,List.not_mem_nil,or_false]at he
 subst he;exact aBR
theorem t27:bL Tryz.prog (aH T27):=aQ e27
noncomputable abbrev g9:=Tryz.f122
noncomputable def lK (k:Int) (n1 n2 n3:Nat) (nl1 nl2 nl3:Option Bool) (cap1 cap2 cap3:Option Nat) (a b:List Int) (c:List Bool) (vs:Int) (v:List Int) (i:Int):St:=
 aS g9.ntmps [(0,.c (.sl 0 0 v.length 1 none)),(1,.c (.fn 224 [.ptr 1 0 0 0,.ptr 2 0 0 0])),(7,.c (.int .i64 v.length)),(8,.c (.int .i64 i))] [.live (.ints .i64 v),.live (.cells [.int .i64 k,.view nl1 (.ints .i64 a) n1 1 cap1,.view nl2 (.ints .i64 b) n2 1 cap2,.view nl3 (.bools c) n3 1 cap3]),.live (.ints .i64 [vs])]
noncomputable def KX (k:Int) (n1 n2 n3:Nat) (nl1 nl2 nl3:Option Bool) (cap1 cap2 cap3:Option Nat) (a b:List Int) (c:List Bool) (vs:Int) (v:List Int):St:=aS g9.ntmps [] [.live (.ints .i64 v),.live (.cells [.int .i64 k,.view nl1 (.ints .i64 a) n1 1 cap1,.view nl2 (.ints .i64 b) n2 1 cap2,.view nl3 (.bools c) n3 1 cap3]),.live (.ints .i64 [vs])]
noncomputable def L5 (k:Int) (n1 n2 n3:Nat) (nl1 nl2 nl3:Option Bool) (cap1 cap2 cap3:Option Nat) (a b:List Int) (c:List Bool) (vs:Int) (v:List Int) (i:Int):St:=aS g9.ntmps [(4,.c (.int .i64 i))] [.live (.ints .i64 v),.live (.cells [.int .i64 k,.view nl1 (.ints .i64 a) n1 1 cap1,.view nl2 (.ints .i64 b) n2 1 cap2,.view nl3 (.bools c) n3 1 cap3]),.live (.ints .i64 [vs])]
def uH (k:Int) (n1 n2 n3:Nat) (nl1 nl2 nl3:Option Bool) (cap1 cap2 cap3:Option Nat) (a b:List Int) (c:List Bool) (vs:Int) (v:List Int) (i:Int):=bt4 (aM tt (aH T27) ([]) 3 100 (aC 0 (aB g9)) (lK k n1 n2 n3 nl1 nl2 nl3 cap1 cap2 cap3 a b c vs v i)) (decide (0≤v.getD i.toNat 0)&&(decide (v.getD i.toNat 0<(↑n2:Int))&&(decide ((v.getD i.toNat 0).toNat<b.length)&&true))) (aK 3 (aE g9 0) (aG g9 0)) (↑v.length:Int) (P:=fun q0 q1 q2 q3=>q2 (q0 [(0,true),(0,true)])=
  some (.ret,(decide (i<q3)&&(decide (0≤i)&&(decide (i<q3)&&(decide (i.toNat<v.length)&&(q1&&((b.getD (v.getD i.toNat 0).toNat 0 !=vs)&&true)))))),[],L5 k n1 n2 n3 nl1 nl2 nl3 cap1 cap2 cap3 a b c vs v (i))∧q2 (q0 [(0,true),(0,false)])=
  some (.normal,(decide (i<q3)&&(decide (0≤i)&&(decide (i<q3)&&(decide (i.toNat<v.length)&&(q1&&((!b.getD (v.getD i.toNat 0).toNat 0 !=vs)&&true)))))),[],lK k n1 n2 n3 nl1 nl2 nl3 cap1 cap2 cap3 a b c vs v (IntKind.i64.wrap (i+1)))∧q2 (q0 [(0,false)])=
  some (.exit 0,((!decide (i<q3))&&true),[],KX k n1 n2 n3 nl1 nl2 nl3 cap1 cap2 cap3 a b c vs v)) ⟨by kernel_rfl,by kernel_rfl,by kernel_rfl⟩
def Q7 (k:Int) (n1 n2 n3:Nat) (nl1 nl2 nl3:Option Bool) (cap1 cap2 cap3:Option Nat) (a b:List Int) (c:List Bool) (vs:Int) (v:List Int) (i:Int):=(uH k n1 n2 n3 nl1 nl2 nl3 cap1 cap2 cap3 a b c vs v i).1
def Q8 (k:Int) (n1 n2 n3:Nat) (nl1 nl2 nl3:Option Bool) (cap1 cap2 cap3:Option Nat) (a b:List Int) (c:List Bool) (vs:Int) (v:List Int) (i:Int):=(uH k n1 n2 n3 nl1 nl2 nl3 cap1 cap2 cap3 a b c vs v i).2.1
def Q9 (k:Int) (n1 n2 n3:Nat) (nl1 nl2 nl3:Option Bool) (cap1 cap2 cap3:Option Nat) (a b:List Int) (c:List Bool) (vs:Int) (v:List Int) (i:Int):=(uH k n1 n2 n3 nl1 nl2 nl3 cap1 cap2 cap3 a b c vs v i).2.2
noncomputable def S7 (k:Int) (n1 n2 n3:Nat) (nl1 nl2 nl3:Option Bool) (cap1 cap2 cap3:Option Nat) (a b:List Int) (c:List Bool) (vs:Int) (v:List Int):Option Nat→St
 |some j=>L5 k n1 n2 n3 nl1 nl2 nl3 cap1 cap2 cap3 a b c vs v j
 |none=>KX k n1 n2 n3 nl1 nl2 nl3 cap1 cap2 cap3 a b c vs v
theorem a19 (k:Int) (n1 n2 n3:Nat) (nl1 nl2 nl3:Option Bool) (cap1 cap2 cap3:Option Nat) (a b:List Int) (c:List Bool) (vs:Int) (v:List Int) (hl:v.length≤274877906944) (hok: ∀i,i<v.length→(0≤v.getD i 0∧v.getD i 0<n2)∧(v.getD i 0).toNat<b.length):
  aP none Tryz.prog 3 (.block 0 (.loop (aC 0 (aB g9)))) (lK k n1 n2 n3 nl1 nl2 nl3 cap1 cap2 cap3 a b c vs v 0) fun e t=>e=vO (eW (fun x=>b.getD x.toNat 0 !=vs) v)∧t=S7 k n1 n2 n3 nl1 nl2 nl3 cap1 cap2 cap3 a b c vs v (eW (fun x=>b.getD x.toNat 0 !=vs) v):=by
 refine aP.roundsR (ro:=none) hT t27 bE (m:=3) (id:=0) (body:=aC 0 (aB g9)) (α:=Nat)
  (fun i=>i≤v.length∧dO (fun x=>b.getD x.toNat 0 !=vs) v (v.length-i) i=eW (fun x=>b.getD x.toNat 0 !=vs) v) (fun i=>lK k n1 n2 n3 nl1 nl2 nl3 cap1 cap2 cap3 a b c vs v i) (fun i=>v.length-i) (aE g9 0) (aG g9 0)
  (fun _=>vO (eW (fun x=>b.getD x.toNat 0 !=vs) v)) (fun _=>S7 k n1 n2 n3 nl1 nl2 nl3 cap1 cap2 cap3 a b c vs v (eW (fun x=>b.getD x.toNat 0 !=vs) v)) (fun _=>[]) (fun _ _=>aL.nil) (fun i hx=> ?_) 0 ⟨by simp,rfl⟩
 obtain⟨h1,h3⟩:=hx
 by_cases hi:i<v.length
 ·have hk:v.length-i=(v.length-(i+1))+1:=by omega
  rw[hk]at h3
  simp only[dO]at h3
  obtain⟨⟨ho1,ho2⟩,ho3⟩:=hok i hi
  cases hz:(fun x=>b.getD x.toNat 0 !=vs) (v.getD i 0)with
  |false=>
   dsimp only at hz
   rw[hz]at h3
   have e:=Q8 k n1 n2 n3 nl1 nl2 nl3 cap1 cap2 cap3 a b c vs v i
   rw[aF (by omega) (by omega),Int.toNat_natCast]at e
   refine⟨_,_,_,_,_,_,e, ?_,by simp,.inl ⟨rfl,i+1,⟨by omega,by simpa using h3⟩,by omega,rfl,rfl,rfl⟩⟩
   simp only[hz,Bool.not_false,Bool.true_and,rpS,Bool.and_true,Bool.and_eq_true,decide_eq_true_eq]
   omega
  |true=>
   dsimp only at hz
   rw[hz]at h3
   simp only[cond_true]at h3
   have e:=Q7 k n1 n2 n3 nl1 nl2 nl3 cap1 cap2 cap3 a b c vs v i
   rw[Int.toNat_natCast]at e
   refine⟨_,_,_,_,_,_,e, ?_,by simp,.inr (.inr ⟨by simp,by simp, ?_, ?_⟩)⟩
   ·simp only[hz,Bool.true_and,rpS,Bool.and_true,Bool.and_eq_true,decide_eq_true_eq]
    omega
   ·rw[←h3];rfl
   ·rw[←h3];rfl
 ·have hz:v.length-i=0:=by omega
  rw[hz]at h3
  simp only[dO]at h3
  exact⟨_,_,_,_,_,_,Q9 k n1 n2 n3 nl1 nl2 nl3 cap1 cap2 cap3 a b c vs v i,by simp;omega,by simp,.inr (.inl ⟨rfl,by rw[←h3];rfl,by rw[←h3];rfl⟩)⟩
def d9 (v:List Int) (n:Nat):Bool:=v.all fun x=>decide (0≤x)&&decide (x<n)
theorem gR {v:List Int} {n:Nat} (h:d9 v n=true) {i:Nat} (hi:i<v.length):0≤v.getD i 0∧v.getD i 0<n:=by
 rw[List.getD_eq_getElem?_getD,List.getElem?_eq_getElem hi]
 have:=List.all_eq_true.1 h _ (List.getElem_mem hi)
 simpa using this
def xO:aO:=fun args h=>
 match args,h with
 |[.c (.sl 0 0 n 1 none),.c (.fn 224 [.ptr 1 0 0 0,.ptr 2 0 0 0])],[.live (.ints .i64 v),.live (.cells [.int .i64 k,.view nl1 (.ints .i64 a) n1 1 cap1,.view nl2 (.ints .i64 b) n2 1 cap2,.view nl3 (.bools c) n3 1 cap3]),.live (.ints .i64 [vs])]=>
  some (.c (.int .i64 (eE (fun x=>b.getD x.toNat 0 !=vs) v)),[.live (.ints .i64 v),.live (.cells [.int .i64 k,.view nl1 (.ints .i64 a) n1 1 cap1,.view nl2 (.ints .i64 b) n2 1 cap2,.view nl3 (.bools c) n3 1 cap3]),.live (.ints .i64 [vs])],[decide (v.length≤274877906944),decide (v.length=n),d9 v b.length,decide (n2=b.length)])
 |_,_=>none
def RL (k:Int) (n1 n2 n3:Nat) (nl1 nl2 nl3:Option Bool) (cap1 cap2 cap3:Option Nat) (a b:List Int) (c:List Bool) (vs:Int) (v:List Int):=bt1 ([.live (.ints .i64 v),.live (.cells [.int .i64 k,.view nl1 (.ints .i64 a) n1 1 cap1,.view nl2 (.ints .i64 b) n2 1 cap2,.view nl3 (.bools c) n3 1 cap3]),.live (.ints .i64 [vs])]:List aV) (P:=fun q0=>(aJ tt (aH T27) ([(0,⟨aE g9 0,lK k n1 n2 n3 nl1 nl2 nl3 cap1 cap2 cap3 a b c vs v 0,.normal,KX k n1 n2 n3 nl1 nl2 nl3 cap1 cap2 cap3 a b c vs v⟩)]) 100 g9 [.c (.sl 0 0 v.length 1 none),.c (.fn 224 [.ptr 1 0 0 0,.ptr 2 0 0 0])] q0) []=
  some ⟨.c (.int .i64 (-1)),q0,true,[lK k n1 n2 n3 nl1 nl2 nl3 cap1 cap2 cap3 a b c vs v 0=lK k n1 n2 n3 nl1 nl2 nl3 cap1 cap2 cap3 a b c vs v 0]⟩) (by kernel_rfl)
def RM (k:Int) (n1 n2 n3:Nat) (nl1 nl2 nl3:Option Bool) (cap1 cap2 cap3:Option Nat) (a b:List Int) (c:List Bool) (vs:Int) (v:List Int) (j:Nat):=bt1 ([.live (.ints .i64 v),.live (.cells [.int .i64 k,.view nl1 (.ints .i64 a) n1 1 cap1,.view nl2 (.ints .i64 b) n2 1 cap2,.view nl3 (.bools c) n3 1 cap3]),.live (.ints .i64 [vs])]:List aV) (P:=fun q0=>(aJ tt (aH T27) ([(0,⟨aE g9 0,lK k n1 n2 n3 nl1 nl2 nl3 cap1 cap2 cap3 a b c vs v 0,.ret,L5 k n1 n2 n3 nl1 nl2 nl3 cap1 cap2 cap3 a b c vs v j⟩)]) 100 g9 [.c (.sl 0 0 v.length 1 none),.c (.fn 224 [.ptr 1 0 0 0,.ptr 2 0 0 0])] q0) []=
  some ⟨.c (.int .i64 (↑j:Int)),q0,true,[lK k n1 n2 n3 nl1 nl2 nl3 cap1 cap2 cap3 a b c vs v 0=lK k n1 n2 n3 nl1 nl2 nl3 cap1 cap2 cap3 a b c vs v 0]⟩) (by kernel_rfl)
theorem a1R:aR Tryz.prog 122 xO:=by
 intro args h res h' o he ho
 unfold xO at he
 split at he
 case h_2=>cases he
 rename_i n v k nl1 a n1 cap1 nl2 b n2 cap2 nl3 c n3 cap3 vs
 simp only[Option.some.injEq,Prod.mk.injEq]at he
 obtain⟨rfl,rfl,rfl⟩:=he
 simp only[List.mem_cons,List.not_mem_nil,or_false,forall_eq_or_imp,forall_eq,decide_eq_true_eq]at ho
 obtain⟨o1,o2,o3,o4⟩:=ho
 subst o2
 have g:=a19 k n1 n2 n3 nl1 nl2 nl3 cap1 cap2 cap3 a b c vs v o1 (fun i hi=>by have:=gR o3 hi;omega)
 unfold eE
 cases hx:eW (fun x=>b.getD x.toNat 0 !=vs) v with
 |none=>
  rw[hx]at g
  exact mo (fn:=g9) t27 (RL k n1 n2 n3 nl1 nl2 nl3 cap1 cap2 cap3 a b c vs v) rfl (hlc:=(fun cc hc=>aL.cons (c:=cc) (by cases hc;kernel_rfl) (by cases hc;exact g) aL.nil))
 |some j=>
  rw[hx]at g
  exact mo (fn:=g9) t27 (RM k n1 n2 n3 nl1 nl2 nl3 cap1 cap2 cap3 a b c vs v j) rfl (hlc:=(fun cc hc=>aL.cons (c:=cc) (by cases hc;kernel_rfl) (by cases hc;exact g) aL.nil))
noncomputable def T28:List aZ:=[⟨122,[0,1],xO⟩]++T27
theorem e28:aA Tryz.prog T28:=by
 refine aA.append ?_ e27
 intro e he
 simp only[List.mem_cons,List.not_mem_nil,or_false]at he
 subst he;exact a1R
theorem t28:bL Tryz.prog (aH T28):=aQ e28
noncomputable abbrev oS:=Tryz.f223
end
section
def fJ (s t:aV):Prop:= ∀(X:Nat→Prop) (w:World) (ρ:Rho) (x:Wh),eO X w ρ s x→eO X w ρ t x
theorem fJ.refl (s:aV):fJ s s:=fun _ _ _ _ h=>h
theorem fJ.take (k:IntKind) (xs:List Int) (n:Nat):fJ (.live (.ints k xs)) (.live (.ints k (xs.take n))):=fun X w ρ x h=>by
 cases x with
 |unborn=>exact h.elim
 |dead=>exact h.elim
 |nil=>simp only[eO,Con.size,List.length_take]at h⊢;omega
 |row b=>
  obtain⟨cs,ty,h1,h2,h3⟩:=h
  simp only[Con.size]at h2 h3
  refine⟨cs,ty,h1,by simp only[Con.size,List.length_take];omega,fun q hq=> ?_⟩
  simp only[Con.size,List.length_take]at hq
  have:=h3 q (by omega)
  simp only[Con.cell]at this⊢
  rw[List.getD_eq_getElem?_getD,List.getElem?_take,if_pos (by omega),←List.getD_eq_getElem?_getD]
  exact this
def rW:List aV→List aV→Prop
 |[],[]=>True
 |s::r,t::r'=>fJ s t∧rW r r'
 |_,_=>False
theorem kK: ∀ {h h':List aV},rW h h'→ ∀id,fJ (Heap.get h id) (Heap.get h' id)
 |[],[],_,id=>fJ.refl _
 |s::r,t::r',h,0=>h.1
 |s::r,t::r',h,id+1=>by
  have:=kK h.2 id
  simpa [Heap.get]using this
 |[],_::_,h,_=>h.elim
 |_::_,[],h,_=>h.elim
theorem bF.slots {P:Program} {f:FuncId} {args:List AV} {h h' h'':List aV} {res:AV} (hm:bF P f args h res h') (hs:rW h' h''):bF P f args h res h'':=by
 refine⟨hm.1,fun {X w0 ρ0} m vs hl hv=> ?_⟩
 refine Calls.mono (hm.2 m vs hl hv) ?_
 rintro e w' ⟨v,ρ',rfl,mb,im,m',hr⟩
 exact⟨v,ρ',rfl,mb,im,⟨fun id=>kK hs id _ _ _ _ (m'.slot id),m'.inj,m'.own,m'.os,m'.tape,m'.output,m'.size,m'.keep,m'.foreign⟩,hr⟩
theorem bF.nilTup {P:Program} {f:FuncId} {args:List AV} {h h':List aV} {es:Nat} {c0:Con} {r:List AV} (hm:bF P f args h (.tup (.c .nils::r)) h') (hc:c0.size=0):
  bF P f args h (.tup (.c (.sl h'.length 0 0 es none)::r)) (h'++[.live c0]):=by
 refine⟨hm.1,fun {X w0 ρ0} m vs hl hv=> ?_⟩
 refine Calls.mono (hm.2 m vs hl hv) ?_
 rintro e w' ⟨v,ρ',rfl,mb,im,m',hr⟩
 obtain⟨hun,m2⟩:=m'.addNil hc
 have mo:=gQ w' hun
 refine⟨v,_,rfl,mb.trans mo.toB,im.trans mo.ids,m2, ?_⟩
 cases hr with
 |tup l vs hs hx=>
  refine .tup _ _ (by simpa using hs) fun i hi=> ?_
  cases i with
  |zero=>
   have h0:=hx 0 (by simp)
   simp only[List.getD_cons_zero]at h0⊢
   cases h0 with
   |c x v hx=>exact .c _ _ (iQ hx)
  |succ i=>
   have:=hx (i+1) (by simpa using hi)
   simp only[List.getD_cons_succ]at this⊢
   exact this.mono mo
def uA (id es:Nat):List aI→Option (List aI)
 |[]=>none
 |.nils::r=>some (.sl id 0 0 es none::r)
 |x::r=>(uA id es r).map (x:: ·)
def BD (id es:Nat):AV→Option AV
 |.c .nils=>some (.c (.sl id 0 0 es none))
 |.agg l=>(uA id es l).map .agg
 |_=>none
def BE (id es:Nat):List AV→Option (List AV)
 |[]=>none
 |x::r=>match BD id es x with
  |some y=>some (y::r)
  |none=>(BE id es r).map (x:: ·)
def nil1 (id es:Nat):AV→Option AV
 |.tup l=>(BE id es l).map .tup
 |x=>BD id es x
theorem qL {X:Nat→Prop} {w:World} {ρ:Rho} {id es:Nat} (hun:ρ id=.unborn): ∀ {l l':List aI},uA id es l=some l'→
  l'.length=l.length∧ ∀i v,CR X w ρ (l.getD i .any) v→CR X w (upd ρ id .nil) (l'.getD i .any) v
 |[],l',h=>by simp[uA]at h
 |x::r,l',h=>by
  have mo:=gQ w hun
  by_cases hx:x=.nils
  ·subst hx
   simp only[uA,Option.some.injEq]at h
   subst h
   refine⟨rfl,fun i v hv=> ?_⟩
   cases i with
   |zero=>simp only[List.getD_cons_zero]at hv⊢;exact iQ hv
   |succ i=>simp only[List.getD_cons_succ]at hv⊢;exact hv.mono mo
  ·have hh:uA id es (x::r)=(uA id es r).map (x:: ·):=by
    cases x<;>first|rfl|exact absurd rfl hx
   rw[hh]at h
   obtain⟨r',h1,h2⟩:=Option.map_eq_some_iff.1 h
   subst h2
   obtain⟨g1,g2⟩:=qL (X:=X) (w:=w) hun h1
   refine⟨by simp[g1],fun i v hv=> ?_⟩
   cases i with
   |zero=>simp only[List.getD_cons_zero]at hv⊢;exact hv.mono mo
   |succ i=>simp only[List.getD_cons_succ]at hv⊢;exact g2 i v hv
theorem kD {X:Nat→Prop} {w:World} {ρ:Rho} {id es:Nat} (hun:ρ id=.unborn) {x y:AV} {v:Value} (h:BD id es x=some y) (hx:AVR X w ρ x v):AVR X w (upd ρ id .nil) y v:=by
 unfold BD at h
 split at h
 ·injection h with h;subst h
  cases hx with
  |c x v hx=>exact .c _ _ (iQ hx)
 ·obtain⟨l',h1,h2⟩:=Option.map_eq_some_iff.1 h
  subst h2
  cases hx with
  |agg cs vs hs hx=>
   obtain⟨g1,g2⟩:=qL (X:=X) (w:=w) hun h1
   exact .agg _ _ (by rw[g1];exact hs) fun i hi=>g2 i _ (hx i (by rw[←g1];exact hi))
 ·cases h
theorem qM {X:Nat→Prop} {w:World} {ρ:Rho} {id es:Nat} (hun:ρ id=.unborn): ∀ {l l':List AV},BE id es l=some l'→
  l'.length=l.length∧ ∀i v,i<l.length→AVR X w ρ (l.getD i (.tup [])) v→AVR X w (upd ρ id .nil) (l'.getD i (.tup [])) v
 |[],l',h=>by simp[BE]at h
 |x::r,l',h=>by
  have mo:=gQ w hun
  simp only[BE]at h
  split at h
  ·rename_i y hy
   injection h with h;subst h
   refine⟨rfl,fun i v hi hv=> ?_⟩
   cases i with
   |zero=>simp only[List.getD_cons_zero]at hv⊢;exact kD hun hy hv
   |succ i=>simp only[List.getD_cons_succ]at hv⊢;exact hv.mono mo
  ·obtain⟨r',h1,h2⟩:=Option.map_eq_some_iff.1 h
   subst h2
   obtain⟨g1,g2⟩:=qM (X:=X) (w:=w) hun h1
   refine⟨by simp[g1],fun i v hi hv=> ?_⟩
   cases i with
   |zero=>simp only[List.getD_cons_zero]at hv⊢;exact hv.mono mo
   |succ i=>simp only[List.getD_cons_succ]at hv⊢;exact g2 i v (by simpa using hi) hv
theorem bF.nil1 {P:Program} {f:FuncId} {args:List AV} {h h':List aV} {es:Nat} {c0:Con} {res res':AV} (hm:bF P f args h res h') (hc:c0.size=0) (hr:Am.nil1 h'.length es res=some res'):
  bF P f args h res' (h'++[.live c0]):=by
 refine⟨hm.1,fun {X w0 ρ0} m vs hl hv=> ?_⟩
 refine Calls.mono (hm.2 m vs hl hv) ?_
 rintro e w' ⟨v,ρ',rfl,mb,im,m',hx⟩
 obtain⟨hun,m2⟩:=m'.addNil hc
 have mo:=gQ w' hun
 refine⟨v,_,rfl,mb.trans mo.toB,im.trans mo.ids,m2, ?_⟩
 cases hx with
 |tup l vs hs hx=>
  simp only[Am.nil1]at hr
  obtain⟨l',h1,h2⟩:=Option.map_eq_some_iff.1 hr
  subst h2
  obtain⟨g1,g2⟩:=qM (X:=X) (w:=w') hun h1
  exact .tup _ _ (by rw[g1];exact hs) fun i hi=>g2 i _ (by rw[←g1];exact hi) (hx i (by rw[←g1];exact hi))
 |any=>simp[Am.nil1,BD]at hr
 |c x v hx=>exact kD hun (by simpa only[Am.nil1]using hr) (.c x v hx)
 |agg cs vs hs hx=>exact kD hun (by simpa only[Am.nil1]using hr) (.agg cs vs hs hx)
end
section
noncomputable def A7 (k:Int) (n1 n2 n3:Nat) (nl1 nl2 nl3:Option Bool) (cap1 cap2 cap3:Option Nat) (a b:List Int) (c:List Bool) (vs:Int) (n:Nat) (v:List Int) (i j:Int):St:=
 aS oS.ntmps [(0,.c (.sl 0 0 n 1 none)),(1,.c (.fn 224 [.ptr 1 0 0 0,.ptr 2 0 0 0])),(5,.c (.int .i64 i)),(6,.c (.int .i64 j))]
  [.live (.ints .i64 v),.live (.cells [.int .i64 k,.view nl1 (.ints .i64 a) n1 1 cap1,.view nl2 (.ints .i64 b) n2 1 cap2,.view nl3 (.bools c) n3 1 cap3]),.live (.ints .i64 [vs])]
noncomputable def O3 (k:Int) (n1 n2 n3:Nat) (nl1 nl2 nl3:Option Bool) (cap1 cap2 cap3:Option Nat) (a b:List Int) (c:List Bool) (vs:Int) (n:Nat) (v:List Int) (i:Int):St:=
 aS oS.ntmps [(0,.c (.sl 0 0 n 1 none)),(5,.c (.int .i64 i))]
  [.live (.ints .i64 v),.live (.cells [.int .i64 k,.view nl1 (.ints .i64 a) n1 1 cap1,.view nl2 (.ints .i64 b) n2 1 cap2,.view nl3 (.bools c) n3 1 cap3]),.live (.ints .i64 [vs])]
def zA (k:Int) (n1 n2 n3:Nat) (nl1 nl2 nl3:Option Bool) (cap1 cap2 cap3:Option Nat) (a b:List Int) (c:List Bool) (vs:Int) (n:Nat) (v:List Int) (i j:Int):=bt6 (aM tt (aH T28) ([]) 3 100 (aC 0 (aB oS)) (A7 k n1 n2 n3 nl1 nl2 nl3 cap1 cap2 cap3 a b c vs n v i j)) (decide (0≤v.getD j.toNat 0)&&(decide (v.getD j.toNat 0<(↑n2:Int))&&(decide ((v.getD j.toNat 0).toNat<b.length)&&true))) (aK 3 (aE oS 0) (aG oS 0)) (↑n:Int) (v.getD j.toNat 0) (IntKind.i64.wrap (j+1)) (P:=fun q0 q1 q2 q3 q4 q5=>q2 (q0 [(0,true),(0,true)])=
  some (.normal,(decide (j<q3)&&(decide (0≤j)&&(decide (j<q3)&&(decide (j.toNat<v.length)&&(q1&&((!b.getD q4.toNat 0 !=vs)&&(decide (0≤i)&&(decide (i<q3)&&((decide (i.toNat<v.length))&&true))))))))),[],A7 k n1 n2 n3 nl1 nl2 nl3 cap1 cap2 cap3 a b c vs n (v.set i.toNat q4) (IntKind.i64.wrap (i+1)) q5)∧q2 (q0 [(0,true),(0,false)])=
  some (.normal,(decide (j<q3)&&(decide (0≤j)&&(decide (j<q3)&&(decide (j.toNat<v.length)&&(q1&&((!!b.getD q4.toNat 0 !=vs)&&true)))))),[],A7 k n1 n2 n3 nl1 nl2 nl3 cap1 cap2 cap3 a b c vs n (v) (i) q5)∧q2 (q0 [(0,false)])=
  some (.exit 0,((!decide (j<q3))&&true),[],O3 k n1 n2 n3 nl1 nl2 nl3 cap1 cap2 cap3 a b c vs n (v) (i))) ⟨by kernel_rfl,by kernel_rfl,by kernel_rfl⟩
def VN (k:Int) (n1 n2 n3:Nat) (nl1 nl2 nl3:Option Bool) (cap1 cap2 cap3:Option Nat) (a b:List Int) (c:List Bool) (vs:Int) (n:Nat) (v:List Int) (i j:Int):=(zA k n1 n2 n3 nl1 nl2 nl3 cap1 cap2 cap3 a b c vs n v i j).1
def VO (k:Int) (n1 n2 n3:Nat) (nl1 nl2 nl3:Option Bool) (cap1 cap2 cap3:Option Nat) (a b:List Int) (c:List Bool) (vs:Int) (n:Nat) (v:List Int) (i j:Int):=(zA k n1 n2 n3 nl1 nl2 nl3 cap1 cap2 cap3 a b c vs n v i j).2.1
def VP (k:Int) (n1 n2 n3:Nat) (nl1 nl2 nl3:Option Bool) (cap1 cap2 cap3:Option Nat) (a b:List Int) (c:List Bool) (vs:Int) (n:Nat) (v:List Int) (i j:Int):=(zA k n1 n2 n3 nl1 nl2 nl3 cap1 cap2 cap3 a b c vs n v i j).2.2
def RK (k:Int) (n1 n2 n3:Nat) (nl1 nl2 nl3:Option Bool) (cap1 cap2 cap3:Option Nat) (a b:List Int) (c:List Bool) (vs:Int) (n:Nat) (v:List Int):=bt1 ([.live (.ints .i64 v),.live (.cells [.int .i64 k,.view nl1 (.ints .i64 a) n1 1 cap1,.view nl2 (.ints .i64 b) n2 1 cap2,.view nl3 (.bools c) n3 1 cap3]),.live (.ints .i64 [vs])]:List aV) (P:=fun q0=>(aJ tt (aH T28) ([]) 100 oS [.c (.sl 0 0 n 1 none),.c (.fn 224 [.ptr 1 0 0 0,.ptr 2 0 0 0])] q0) [(0,true)]=
  some ⟨.c (.sl 0 0 n 1 none),q0,(decide (v.length≤274877906944)&&(decide (v.length=n)&&(d9 v b.length&&(decide (n2=b.length)&&((eE (fun x=>b.getD x.toNat 0 !=vs) v== -1)&&true))))),[]⟩) (by kernel_rfl)
theorem Y1 (k:Int) (n1 n2 n3:Nat) (nl1 nl2 nl3:Option Bool) (cap1 cap2 cap3:Option Nat) (a b:List Int) (c:List Bool) (vs:Int) (n:Nat) (v v':List Int) (i:Int):aJ tt (aH T28) ([(0,⟨aE oS 0,A7 k n1 n2 n3 nl1 nl2 nl3 cap1 cap2 cap3 a b c vs n v (eE (fun x=>b.getD x.toNat 0 !=vs) v) (IntKind.i64.wrap (eE (fun x=>b.getD x.toNat 0 !=vs) v+1)),.normal,O3 k n1 n2 n3 nl1 nl2 nl3 cap1 cap2 cap3 a b c vs n v' i⟩)]) 100 oS [.c (.sl 0 0 n 1 none),.c (.fn 224 [.ptr 1 0 0 0,.ptr 2 0 0 0])] [.live (.ints .i64 v),.live (.cells [.int .i64 k,.view nl1 (.ints .i64 a) n1 1 cap1,.view nl2 (.ints .i64 b) n2 1 cap2,.view nl3 (.bools c) n3 1 cap3]),.live (.ints .i64 [vs])] [(0,false)]=
  some ⟨.c (.sl 0 0 i.toNat 1 none),[.live (.ints .i64 (List.take i.toNat v'++(List.replicate (n-i.toNat) 0++List.drop (i.toNat+(n-i.toNat)) v'))),.live (.cells [.int .i64 k,.view nl1 (.ints .i64 a) n1 1 cap1,.view nl2 (.ints .i64 b) n2 1 cap2,.view nl3 (.bools c) n3 1 cap3]),.live (.ints .i64 [vs])],(decide (v.length≤274877906944)&&(decide (v.length=n)&&(d9 v b.length&&(decide (n2=b.length)&&((!eE (fun x=>b.getD x.toNat 0 !=vs) v== -1)&&(decide (0≤i)&&(decide (i≤(↑n:Int))&&(decide (i.toNat+(n-i.toNat)≤v'.length)&&(decide (0≤i)&&((decide (i≤(↑n:Int)))&&true)))))))))),[A7 k n1 n2 n3 nl1 nl2 nl3 cap1 cap2 cap3 a b c vs n v (eE (fun x=>b.getD x.toNat 0 !=vs) v) (IntKind.i64.wrap (eE (fun x=>b.getD x.toNat 0 !=vs) v+1))=A7 k n1 n2 n3 nl1 nl2 nl3 cap1 cap2 cap3 a b c vs n v (eE (fun x=>b.getD x.toNat 0 !=vs) v) (IntKind.i64.wrap (eE (fun x=>b.getD x.toNat 0 !=vs) v+1))]⟩:=by kernel_rfl
theorem mG {q:Int→Bool} {v:List Int}: ∀ {f i j:Nat},dO q v f i=some j→i≤j∧j<i+f∧q (v.getD j 0)=true∧ ∀k,i≤k→k<j→q (v.getD k 0)=false
 |0,i,j,h=>by simp[dO]at h
 |f+1,i,j,h=>by
  simp only[dO]at h
  cases hq:q (v.getD i 0)with
  |true=>
   rw[hq,cond_true]at h
   injection h with h;subst h
   exact⟨Nat.le_refl _,by omega,hq,fun k h1 h2=>by omega⟩
  |false=>
   rw[hq,cond_false]at h
   obtain⟨h1,h2,h3,h4⟩:=mG h
   refine⟨by omega,by omega,h3,fun k h5 h6=> ?_⟩
   by_cases e:k=i
   ·subst e;exact hq
   ·exact h4 k (by omega) h6
theorem mF {q:Int→Bool} {v:List Int}: ∀ {f i:Nat},dO q v f i=none→ ∀k,i≤k→k<i+f→q (v.getD k 0)=false
 |0,i,h,k,h1,h2=>by omega
 |f+1,i,h,k,h1,h2=>by
  simp only[dO]at h
  cases hq:q (v.getD i 0)with
  |true=>rw[hq,cond_true]at h;cases h
  |false=>
   rw[hq,cond_false]at h
   by_cases e:k=i
   ·subst e;exact hq
   ·exact mF h k (by omega) (by omega)
theorem jK {q:Int→Bool} {v:List Int}: ∀(n:Nat),n≤v.length→(∀k,k<n→q (v.getD k 0)=false)→(v.take n).filter (fun x=> !q x)=v.take n:=by
 intro n hn h
 refine List.filter_eq_self.2 fun x hx=> ?_
 obtain⟨k,hk⟩:=List.getElem?_of_mem hx
 rw[List.getElem?_take]at hk
 split at hk
 ·rename_i h1
  have:=h k h1
  rw[List.getD_eq_getElem?_getD,hk]at this
  simpa using this
 ·cases hk
theorem iV {v:List Int} {n:Nat} (h:n<v.length):v.take (n+1)=v.take n++[v.getD n 0]:=by
 rw[List.take_add_one,List.getD_eq_getElem?_getD,List.getElem?_eq_getElem h];rfl
def AZ (q:Int→Bool) (j0:Nat) (t:Nat) (s:List Int×Nat):List Int×Nat:=bif q (s.1.getD (j0+t) 0)then s else(s.1.set s.2 (s.1.getD (j0+t) 0),s.2+1)
def JP (q:Int→Bool) (v:List Int) (j0:Nat) (t:Nat) (s:List Int×Nat):Prop:=
 s.1.length=v.length∧s.2<j0+t∧(∀k,j0+t≤k→s.1.getD k 0=v.getD k 0)∧s.1.take s.2=(v.take (j0+t)).filter (fun x=> !q x)
theorem sW {q:Int→Bool} {v:List Int} {j0 t:Nat} {s:List Int×Nat} (h:JP q v j0 t s) (ht:j0+t<v.length):JP q v j0 (t+1) (AZ q j0 t s):=by
 obtain⟨h1,h2,h3,h4⟩:=h
 have hx:=h3 (j0+t) (Nat.le_refl _)
 unfold AZ
 have ht':v.take (j0+(t+1))=v.take (j0+t)++[v.getD (j0+t) 0]:=iV ht
 cases hq:q (s.1.getD (j0+t) 0)with
 |true=>
  rw[cond_true]
  refine⟨h1,by omega,fun k hk=>h3 k (by omega), ?_⟩
  rw[ht',List.filter_append,h4]
  rw[hx]at hq
  rw[List.filter_cons,hq];simp
 |false=>
  rw[cond_false]
  refine⟨by simp[h1],by dsimp only;omega,fun k hk=> ?_, ?_⟩
  ·dsimp only
   rw[bC,if_neg (by omega)]
   exact h3 k (by omega)
  ·dsimp only
   rw[iV (by rw[List.length_set];omega),List.take_set,List.set_eq_of_length_le (by rw[List.length_take];omega),bC,if_pos ⟨rfl,by omega⟩,h4,ht',List.filter_append]
   rw[hx]at hq
   rw[hx,List.filter_cons,hq];simp
theorem wF {q:Int→Bool} {v:List Int} {i:Nat} (h:eW q v=some i):i<v.length∧JP q v (i+1) 0 (v,i):=by
 obtain⟨h1,h2,h3,h4⟩:=mG h
 have hi:i<v.length:=by omega
 refine⟨hi,rfl,by dsimp only;omega,fun k _=>rfl, ?_⟩
 dsimp only
 rw[Nat.add_zero,iV hi,List.filter_append,jK i (by omega) (fun k hk=>h4 k (by omega) hk)]
 simp only[List.filter_cons,h3,List.filter_nil,Bool.not_true,Bool.false_eq_true,if_false,List.append_nil]
theorem a94 (k:Int) (n1 n2 n3:Nat) (nl1 nl2 nl3:Option Bool) (cap1 cap2 cap3:Option Nat) (a b:List Int) (c:List Bool) (vs:Int) (v:List Int) (i0:Nat) (hl:v.length≤274877906944) (hp:d9 v b.length=true) (h2:n2=b.length) (h0:eW (fun x=>b.getD x.toNat 0 !=vs) v=some i0):
  aP none Tryz.prog 3 (.block 0 (.loop (aC 0 (aB oS)))) (A7 k n1 n2 n3 nl1 nl2 nl3 cap1 cap2 cap3 a b c vs v.length v i0 (i0+1:Nat)) fun e t=>e=.normal∧
   t=O3 k n1 n2 n3 nl1 nl2 nl3 cap1 cap2 cap3 a b c vs v.length (bI (AZ (fun x=>b.getD x.toNat 0 !=vs) (i0+1)) (v.length-(i0+1)) 0 (v,i0)).1 (bI (AZ (fun x=>b.getD x.toNat 0 !=vs) (i0+1)) (v.length-(i0+1)) 0 (v,i0)).2:=by
 obtain⟨g1,g2⟩:=wF h0
 refine aP.count (ro:=none) hT t28 bE (v.length-(i0+1)) (JP (fun x=>b.getD x.toNat 0 !=vs) v (i0+1)) (fun t s=>A7 k n1 n2 n3 nl1 nl2 nl3 cap1 cap2 cap3 a b c vs v.length s.1 s.2 (i0+1+t:Nat)) (fun s=>O3 k n1 n2 n3 nl1 nl2 nl3 cap1 cap2 cap3 a b c vs v.length s.1 s.2) (AZ (fun x=>b.getD x.toNat 0 !=vs) (i0+1)) (aE oS 0) (aG oS 0)
  (fun _ _=>[]) (fun _ _ _ _=>aL.nil) (fun t s ht h=>⟨sW h (by omega), ?_⟩) (fun s h=> ?_) (v,i0) g2
 ·have hn:=sW h (by omega)
  obtain⟨d1,d2,d3,d4⟩:=h
  have hpl:=gR hp (i:=i0+1+t) (by omega)
  have hx:=d3 (i0+1+t) (Nat.le_refl _)
  unfold AZ
  cases hq:b.getD (s.1.getD (i0+1+t) 0).toNat 0 !=vs with
  |true=>
   have e:=VO k n1 n2 n3 nl1 nl2 nl3 cap1 cap2 cap3 a b c vs v.length s.1 s.2 (i0+1+t:Nat)
   rw[aF (by omega) (by omega),Int.toNat_natCast]at e
   dsimp only
   rw[hq]
   refine⟨_,_,⟨_,_,e, ?_,by simp⟩⟩
   simp only[hq,Bool.not_true,Bool.not_false,Bool.true_and,rpS,Bool.and_true,Bool.and_eq_true,decide_eq_true_eq]
   omega
  |false=>
   have e:=VN k n1 n2 n3 nl1 nl2 nl3 cap1 cap2 cap3 a b c vs v.length s.1 s.2 (i0+1+t:Nat)
   rw[aF (i:=((i0+1+t:Nat):Int)+1) (by omega) (by omega),aF (i:=(s.2:Int)+1) (by omega) (by omega),Int.toNat_natCast,Int.toNat_natCast]at e
   dsimp only
   rw[hq]
   refine⟨_,_,⟨_,_,e, ?_,by simp⟩⟩
   simp only[hq,Bool.not_false,Bool.true_and,rpS,Bool.and_true,Bool.and_eq_true,decide_eq_true_eq]
   omega
 ·rw[show i0+1+(v.length-(i0+1))=v.length from by omega]
  exact⟨_,_,⟨_,_,VP k n1 n2 n3 nl1 nl2 nl3 cap1 cap2 cap3 a b c vs v.length s.1 s.2 v.length,by simp,by simp⟩⟩
def JU:aO:=fun args h=>
 match args,h with
 |[.c (.sl 0 0 n 1 none),.c (.fn 224 [.ptr 1 0 0 0,.ptr 2 0 0 0])],[.live (.ints .i64 v),.live (.cells [.int .i64 k,.view nl1 (.ints .i64 a) n1 1 cap1,.view nl2 (.ints .i64 b) n2 1 cap2,.view nl3 (.bools c) n3 1 cap3]),.live (.ints .i64 [vs])]=>
  some (.c (.sl 0 0 (v.filter fun x=> !(b.getD x.toNat 0 !=vs)).length 1 none),[.live (.ints .i64 (v.filter fun x=> !(b.getD x.toNat 0 !=vs))),.live (.cells [.int .i64 k,.view nl1 (.ints .i64 a) n1 1 cap1,.view nl2 (.ints .i64 b) n2 1 cap2,.view nl3 (.bools c) n3 1 cap3]),.live (.ints .i64 [vs])],[decide (v.length≤274877906944),decide (v.length=n),d9 v b.length,decide (n2=b.length)])
 |_,_=>none
theorem aAN:aR Tryz.prog 223 JU:=by
 intro args h res h' o he ho
 unfold JU at he
 split at he
 case h_2=>cases he
 rename_i n v k nl1 a n1 cap1 nl2 b n2 cap2 nl3 c n3 cap3 vs
 simp only[Option.some.injEq,Prod.mk.injEq]at he
 obtain⟨rfl,rfl,rfl⟩:=he
 simp only[List.mem_cons,List.not_mem_nil,or_false,forall_eq_or_imp,forall_eq,decide_eq_true_eq]at ho
 obtain⟨o1,o2,o3,o4⟩:=ho
 subst o2
 cases hx:eW (fun x=>b.getD x.toNat 0 !=vs) v with
 |none=>
  have hL:eE (fun x=>b.getD x.toNat 0 !=vs) v= -1:=by unfold eE;rw[hx]
  have hf:(v.filter fun x=> !(b.getD x.toNat 0 !=vs))=v:=by
   have:=jK (q:=(fun x=>b.getD x.toNat 0 !=vs)) (v:=v) v.length (Nat.le_refl _) (fun k hk=>mF hx k (by omega) (by omega))
   rw[List.take_length]at this;exact this
  rw[hf]
  exact mo (fn:=oS) t28 (RK k n1 n2 n3 nl1 nl2 nl3 cap1 cap2 cap3 a b c vs v.length v) (by rw[hL];simp[o1,o3,o4])
 |some i0=>
  have hL:eE (fun x=>b.getD x.toNat 0 !=vs) v=i0:=by unfold eE;rw[hx]
  obtain⟨g1,g2⟩:=wF hx
  have g:=a94 k n1 n2 n3 nl1 nl2 nl3 cap1 cap2 cap3 a b c vs v i0 o1 o3 o4 hx
  have fin:=aY (step:=AZ (fun x=>b.getD x.toNat 0 !=vs) (i0+1)) (JP (fun x=>b.getD x.toNat 0 !=vs) v (i0+1)) (v.length-(i0+1)) (v,i0) g2 fun t s ht h=>sW h (by omega)
  generalize bI (AZ (fun x=>b.getD x.toNat 0 !=vs) (i0+1)) (v.length-(i0+1)) 0 (v,i0)=s at g fin
  obtain⟨d1,d2,d3,d4⟩:=fin
  rw[show i0+1+(v.length-(i0+1))=v.length from by omega]at d2 d4
  rw[List.take_length]at d4
  have hlen:(v.filter fun x=> !(b.getD x.toNat 0 !=vs)).length=s.2:=by rw[←d4,List.length_take];omega
  have e:=Y1 k n1 n2 n3 nl1 nl2 nl3 cap1 cap2 cap3 a b c vs v.length v s.1 s.2
  rw[hL]at e
  have hw:IntKind.i64.wrap ((i0:Int)+1)=(i0+1:Nat):=by rw[aF (by omega) (by omega)];rfl
  rw[hw,Int.toNat_natCast]at e
  have mm:=mo (f:=223) (fn:=oS) t28 e (by
    have h3:(((i0:Int))== -1)=false:=by
     rw[beq_eq_false_iff_ne];omega
    simp only[h3,o1,o3,o4,Bool.not_false,Bool.true_and,rpS,Bool.and_true,Bool.and_eq_true,decide_eq_true_eq,true_and,and_true]
    omega) (hlc:=(fun cc hc=>aL.cons (c:=cc) (by cases hc;kernel_rfl) (by cases hc;exact g) aL.nil))
  rw[hlen]
  refine mm.slots ⟨?_,fJ.refl _,fJ.refl _,trivial⟩
  have h6:(List.take s.2 s.1++(List.replicate (v.length-s.2) 0++List.drop (s.2+(v.length-s.2)) s.1)).take s.2=v.filter fun x=> !(b.getD x.toNat 0 !=vs):=by
   rw[List.take_append_of_le_length (by rw[List.length_take];omega),List.take_take,Nat.min_self];exact d4
  rw[←h6]
  exact fJ.take _ _ _
end
section
noncomputable def T29:List aZ:=[⟨223,[0,1],JU⟩]++T28
theorem e29:aA Tryz.prog T29:=by
 refine aA.append ?_ e28
 intro e he
 simp only[List.mem_cons,List.not_mem_nil,or_false]at he
 subst he;exact aAN
theorem t29:bL Tryz.prog (aH T29):=aQ e29
theorem XK (k:Int) (a b:List Int) (c:List Bool) (vs:Int):aJ tt (aH T29) ([]) 100 Tryz.f184 [.agg [.int .i64 k,.view none (.ints .i64 a) a.length 1 none,.view none (.ints .i64 b) b.length 1 none,.view none (.bools c) c.length 1 none],.c (.int .i64 vs)] [] []=
  some ⟨.c (.sl 0 0 (List.filter (fun x=> !b.getD x.toNat 0 !=vs) (flg c)).length 1 none),[.live (.ints .i64 (List.filter (fun x=> !b.getD x.toNat 0 !=vs) (flg c)))],(decide (c.length≤274877906944)&&(decide ((flg c).length≤274877906944)&&(decide ((flg c).length=(flg c).length)&&(d9 (flg c) b.length&&((decide (b.length=b.length))&&true))))),[]⟩:=by kernel_rfl
def ofL (b:List Int) (c:List Bool) (vs:Int):List Int:=(flg c).filter fun x=> !(b.getD x.toNat 0 !=vs)
def SM:aO:=fun args h=>
 match args,h with
 |[.agg [.int .i64 k,.view _ (.ints .i64 a) n1 1 _,.view _ (.ints .i64 b) n2 1 _,.view _ (.bools c) n3 1 _],.c (.int .i64 vs)],[]=>
  some (.c (.sl 0 0 (ofL b c vs).length 1 none),[.live (.ints .i64 (ofL b c vs))],[decide (c.length≤274877906944),decide (b.length=c.length)])
 |_,_=>none
theorem nB (bs:List Bool) (N:Nat): ∀k i,i+k≤N→d9 (f0 bs k i) N=true
 |0,_,_=>rfl
 |k+1,i,h=>by
  have:=nB bs N k (i+1) (by omega)
  simp only[f0]
  split
  ·simp only[d9,List.all_cons,Bool.and_eq_true,rpS,decide_eq_true_eq]
   exact⟨by omega,this⟩
  ·exact this
theorem mD (bs:List Bool):d9 (flg bs) bs.length=true:=nB bs bs.length _ _ (by omega)
theorem nC (bs:List Bool):(flg bs).length≤bs.length:=wJ bs _ _
theorem aA0:aT Tryz.prog 184 SM:=by
 intro args h res h' o hnorm he ho
 unfold SM at he
 split at he
 case h_2=>cases he
 rename_i k nl1 a n1 cap1 nl2 b n2 cap2 nl3 c n3 cap3 vs
 simp only[Option.some.injEq,Prod.mk.injEq]at he
 obtain⟨rfl,rfl,rfl⟩:=he
 simp only[List.mem_cons,List.not_mem_nil,or_false,forall_eq_or_imp,forall_eq,decide_eq_true_eq]at ho
 obtain⟨o1,o2⟩:=ho
 simp only[b8,AV.norm,bA,aI.norm,Con.size,List.cons.injEq,AV.c.injEq,AV.agg.injEq,aI.view.injEq,aN,true_and,and_true]at hnorm
 obtain⟨⟨rfl,rfl,rfl⟩,⟨rfl,rfl,rfl⟩,rfl,rfl,rfl⟩:=hnorm
 have h1:=nC c
 exact mo t29 (XK k a b c vs) (by simp[o1,o2,mD];omega)
theorem YC (a:Int):aJ tt (aH T29) ([]) 100 Tryz.f291 [.c (.int .i64 a)] [] []=
  some ⟨.c (.bool (a !=a)),[],true,[]⟩:=by kernel_rfl
def K3:aO:=fun args h=>
 match args,h with
 |[.c (.int .i64 a)],[]=>
  some (.c (.bool false),[],[])
 |_,_=>none
theorem aBI:aR Tryz.prog 291 K3:=by
 intro args h res h' o he ho
 unfold K3 at he
 split at he
 case h_2=>cases he
 rename_i a
 simp only[Option.some.injEq,Prod.mk.injEq]at he
 obtain⟨rfl,rfl,rfl⟩:=he
 have e:=YC a
 rw[bne_self_eq_false]at e
 exact mo t29 e rfl
noncomputable def T30:List aZ:=[⟨184,[],nm SM⟩,⟨291,[],K3⟩]++T29
theorem e30:aA Tryz.prog T30:=by
 refine aA.append ?_ e29
 intro e he
 simp only[List.mem_cons,List.not_mem_nil,or_false]at he
 rcases he with rfl|rfl
 ·exact aA0.ok
 ·exact aBI
theorem t30:bL Tryz.prog (aH T30):=aQ e30
theorem YA (a b:Int):aJ tt (aH T30) ([]) 100 Tryz.f277 [.c (.int .i64 a),.c (.int .i64 b)] [] []=
  some ⟨.c (.bool (decide (a<b))),[],true,[]⟩:=by kernel_rfl
def xT:aO:=fun args h=>
 match args,h with
 |[.c (.int .i64 a),.c (.int .i64 b)],[]=>
  some (.c (.bool (decide (a<b))),[],[])
 |_,_=>none
theorem aB9:aR Tryz.prog 277 xT:=by
 intro args h res h' o he ho
 unfold xT at he
 split at he
 case h_2=>cases he
 rename_i a b
 simp only[Option.some.injEq,Prod.mk.injEq]at he
 obtain⟨rfl,rfl,rfl⟩:=he
 exact mo t30 (YA a b) rfl
noncomputable def T31:List aZ:=[⟨277,[],xT⟩]++T30
theorem e31:aA Tryz.prog T31:=by
 refine aA.append ?_ e30
 intro e he
 simp only[List.mem_cons,List.not_mem_nil,or_false]at he
 subst he;exact aB9
theorem t31:bL Tryz.prog (aH T31):=aQ e31
noncomputable abbrev f166:=Tryz.f271
noncomputable def m5 (n:Nat) (v:List Int) (i:Int):St:=
 aS f166.ntmps [(0,.c (.sl 0 0 n 1 none)),(1,.c (.int .i64 0)),(2,.c (.int .i64 n)),(6,.c (.int .i64 i))] [.live (.ints .i64 v)]
noncomputable def O8 (v:List Int):St:=aS f166.ntmps [] [.live (.ints .i64 v)]
noncomputable def AD (n:Nat) (v:List Int) (i j:Int):St:=
 aS f166.ntmps [(0,.c (.sl 0 0 n 1 none)),(1,.c (.int .i64 0)),(2,.c (.int .i64 n)),(6,.c (.int .i64 i)),(7,.c (.int .i64 j))] [.live (.ints .i64 v)]
def uJ (n:Nat) (v:List Int) (i j:Int):=bt6 (IntKind.i64.wrap (j-1)) (aM tt (aH T31) ([]) 1 100 (aC 2 (aB f166)) (AD n v i j)) (aK 1 (aE f166 2) (aG f166 2)) (↑n:Int) (decide (j>0)) (!decide (j>0)) (P:=fun q0 q1 q2 q3 q4 q5=>q2 (q1 [(0,true),(0,true)])=
  some (.normal,(rp3 q4 (decide (0≤j)&&(decide (j<q3)&&(decide (j>0)&&(decide (j.toNat<v.length)&&(rp4 q4 (decide (0≤IntKind.i64.wrap (j-1))&&(decide (IntKind.i64.wrap (j-1)<q3)&&(decide (j>0)&&(decide (q0.toNat<v.length)&&(decide (j>0)&&((bif decide (j>0)then decide (v.getD j.toNat 0<v.getD q0.toNat 0)else false)&&(decide (0≤IntKind.i64.wrap (j-1))&&(decide (IntKind.i64.wrap (j-1)<q3)&&(decide (q0.toNat<v.length)&&(decide (0≤j)&&(decide (j<q3)&&(decide (j.toNat<v.length)&&(decide (0≤j)&&(decide (j<q3)&&(decide (j.toNat<v.length)&&(decide (0≤IntKind.i64.wrap (j-1))&&(decide (IntKind.i64.wrap (j-1)<q3)&&((decide (q0.toNat<(v.set j.toNat (v.getD q0.toNat 0)).length))&&true)))))))))))))))))))))))),[],AD n ((v.set j.toNat (v.getD q0.toNat 0)).set q0.toNat (v.getD j.toNat 0)) i q0)∧q2 (q1 [(0,true),(0,false)])=
  some (.exit 2,(rp3 q4 (decide (0≤j)&&(decide (j<q3)&&(decide (j>0)&&(decide (j.toNat<v.length)&&(rp4 q4 (decide (0≤IntKind.i64.wrap (j-1))&&(decide (IntKind.i64.wrap (j-1)<q3)&&(decide (j>0)&&(decide (q0.toNat<v.length)&&(decide (j>0)&&((!bif decide (j>0)then decide (v.getD j.toNat 0<v.getD q0.toNat 0)else false)&&true)))))))))))),[],m5 n (v) i)∧q2 (q1 [(0,false)])=
  some (.exit 2,(q5&&(rp9 q5 (q5&&true))),[],m5 n (v) i)) ⟨by kernel_rfl,by kernel_rfl,by kernel_rfl⟩
def QH (n:Nat) (v:List Int) (i j:Int):=(uJ n v i j).1
def QI (n:Nat) (v:List Int) (i j:Int):=(uJ n v i j).2.1
def QJ (n:Nat) (v:List Int) (i j:Int):=(uJ n v i j).2.2
theorem WA (n:Nat) (v v':List Int) (i:Int):aK 1 (aE f166 0) (aG f166 0) (aM tt (aH T31) ([(2,⟨aE f166 2,AD n v i i,.normal,m5 n v' i⟩)]) 1 100 (aC 0 (aB f166)) (m5 n v i) [(0,true)])=
  some (.normal,((decide (i<(↑n:Int)))&&true),[AD n v i i=AD n v i i],m5 n (v') (IntKind.i64.wrap (i+1))):=by kernel_rfl
theorem WB (n:Nat) (v v':List Int) (i:Int) (lcv:List (Nat×LC)):aK 1 (aE f166 0) (aG f166 0) (aM tt (aH T31) (lcv) 1 100 (aC 0 (aB f166)) (m5 n v i) [(0,false)])=
  some (.exit 0,((!decide (i<(↑n:Int)))&&true),[],O8 (v)):=by kernel_rfl
end
section
def swp (v:List Int) (j:Nat):List Int:=(v.set j (v.getD (j-1) 0)).set (j-1) (v.getD j 0)
def oX (j0 t:Nat) (v:List Int):List Int⊕List Int:=bif decide (v.getD (j0-t) 0<v.getD (j0-t-1) 0)then .inl (swp v (j0-t))else .inr v
def kA (j0:Nat) (v:List Int):List Int:=match cG (oX j0) j0 0 v with|.inl v=>v|.inr v=>v
def cW (v:List Int):List Int:=bI (fun t v=>kA (t+1) v) (v.length-1) 0 v
theorem jE (v:List Int) (j:Nat):(swp v j).length=v.length:=by simp[swp]
theorem gU {β γ:Type} {step:Nat→β→β⊕γ} (Inv:Nat→β→Prop) (Q:γ→Prop): ∀(f i:Nat) (b:β),Inv i b→
  (∀k b,i≤k→k<i+f→Inv k b→(∀b',step k b=.inl b'→Inv (k+1) b')∧ ∀c,step k b=.inr c→Q c)→match cG step f i b with|.inl b'=>Inv (i+f) b'|.inr c=>Q c
 |0,i,b,h,_=>h
 |f+1,i,b,h,hs=>by
  simp only[cG]
  have h0:=hs i b (Nat.le_refl _) (by omega) h
  cases hb:step i b with
  |inl b'=>
   have:=gU (step:=step) Inv Q f (i+1) b' (h0.1 b' hb) (fun k b h1 h2=>hs k b (by omega) (by omega))
   rw[show i+(f+1)=i+1+f from by omega]
   exact this
  |inr c=>exact h0.2 c hb
theorem B7 (j:Nat) (v:List Int):(kA j v).length=v.length:=by
 have:=gU (step:=oX j) (fun _ b=>b.length=v.length) (fun c=>c.length=v.length) j 0 v rfl (fun k b _ _ hb=>by
  unfold oX
  cases decide (b.getD (j-k) 0<b.getD (j-k-1) 0)
  ·exact⟨fun b' h=>by simp at h,fun c h=>by simp at h;rw[←h];exact hb⟩
  ·exact⟨fun b' h=>by simp at h;rw[←h,jE];exact hb,fun c h=>by simp at h⟩)
 unfold kA
 revert this
 cases cG (oX j) j 0 v<;>exact fun h=>h
theorem pO (v:List Int):(cW v).length=v.length:=aY (step:=fun t v=>kA (t+1) v) (fun _ b=>b.length=v.length) _ v rfl fun k b _ h=>by rw[B7];exact h
theorem a1C (v:List Int) (i j0:Nat) (hl:v.length≤274877906944) (hj:j0<v.length):
  aP none Tryz.prog 1 (.block 2 (.loop (aC 2 (aB f166)))) (AD v.length v i j0) fun e t=>e=.normal∧t=m5 v.length (kA j0 v) i:=by
 have key:=aP.countE (ro:=none) hT t31 bE (m:=1) (id:=2) (body:=aC 2 (aB f166)) j0 (fun _ b=>b.length=v.length) (fun t b=>AD v.length b i (j0-t:Nat)) (fun b=>m5 v.length b i) (fun b=>m5 v.length b i) .normal (.inl rfl)
  (oX j0) (aE f166 2) (aG f166 2) (fun _ _=>[]) (fun _ _ _ _=>aL.nil) (fun t b ht hb=> ?_) (fun b hb=> ?_) v rfl
 ·refine aP.mono key fun e t h=> ?_
  unfold kA
  revert h
  cases cG (oX j0) j0 0 v<;>exact fun h=>h
 ·unfold oX
  have hw:IntKind.i64.wrap (((j0-t:Nat):Int)-1)=((j0-t-1:Nat):Int):=by rw[cQ (by omega) (by omega)];omega
  cases hq:decide (b.getD (j0-t) 0<b.getD (j0-t-1) 0)with
  |true=>
   refine .inl ⟨swp b (j0-t),rfl,by rw[jE];exact hb, ?_⟩
   have e:=QH v.length b i (j0-t:Nat)
   rw[hw,Int.toNat_natCast,Int.toNat_natCast]at e
   rw[show j0-(t+1)=j0-t-1 from by omega]
   refine⟨_,_,⟨_,_,e, ?_,by simp⟩⟩
   have h0:decide (((j0-t:Nat):Int)>0)=true:=decide_eq_true (by omega)
   simp only[h0,hq,cond_true,List.length_set,Bool.true_and,rpS,Bool.and_true,Bool.and_eq_true,decide_eq_true_eq]
   omega
  |false=>
   refine .inr ⟨b,rfl, ?_⟩
   have e:=QI v.length b i (j0-t:Nat)
   rw[hw,Int.toNat_natCast,Int.toNat_natCast]at e
   rw[if_pos rfl]
   refine⟨_,_,⟨_,_,e, ?_,by simp⟩⟩
   have h0:decide (((j0-t:Nat):Int)>0)=true:=decide_eq_true (by omega)
   simp only[h0,hq,cond_true,Bool.not_false,Bool.true_and,rpS,Bool.and_true,Bool.and_eq_true,decide_eq_true_eq]
   omega
 ·rw[Nat.sub_self]
  have e:=QJ v.length b i (0:Nat)
  exact⟨_,_,⟨_,_,e,by simp,by simp⟩⟩
theorem OT:aC 2 (aC 0 (aB f166))=aC 2 (aB f166):=by kernel_rfl
theorem a9C (v:List Int) (hl:v.length≤274877906944):
  aP none Tryz.prog 1 (.block 0 (.loop (aC 0 (aB f166)))) (m5 v.length v 1) fun e t=>e=.normal∧t=O8 (cW v):=by
 refine aP.count (ro:=none) hT t31 bE (v.length-1) (fun _ b=>b.length=v.length) (fun t b=>m5 v.length b (1+t:Nat)) (fun b=>O8 b) (fun t b=>kA (t+1) b) (aE f166 0) (aG f166 0)
  (fun t b=>[(2,⟨aE f166 2,AD v.length b (1+t:Nat) (1+t:Nat),.normal,m5 v.length (kA (t+1) b) (1+t:Nat)⟩)]) (fun t b ht hb=> ?_) (fun t b ht hb=>⟨by rw[B7];exact hb, ?_⟩) (fun b hb=> ?_) v rfl
 ·refine aL.cons (by kernel_rfl) ?_ aL.nil
  rw[OT]
  have:=a1C b (1+t) (1+t) (by omega) (by omega)
  rw[hb]at this
  rw[Nat.add_comm 1 t]at this⊢
  exact this
 ·have e:=WA v.length b (kA (t+1) b) (1+t:Nat)
  rw[aF (by omega) (by omega)]at e
  refine⟨_,_,⟨_,_,e, ?_,by simp⟩⟩
  simp only[Bool.and_true,rpS,decide_eq_true_eq]
  omega
 ·have e:=WB v.length b [] (1+(v.length-1):Nat) []
  refine⟨_,_,⟨_,_,e, ?_,by simp⟩⟩
  simp only[Bool.and_true,rpS,Bool.not_eq_true',decide_eq_false_iff_not]
  omega
theorem Y9 (v:List Int):aJ tt (aH T31) ([(0,⟨aE f166 0,m5 v.length v 1,.normal,O8 (cW v)⟩)]) 100 f166 [.c (.sl 0 0 v.length 1 none),.c (.int .i64 0),.c (.int .i64 v.length)] [.live (.ints .i64 v)] []=
  some ⟨.tup [],[.live (.ints .i64 (cW v))],true,[m5 v.length v 1=m5 v.length v 1]⟩:=by kernel_rfl
def K1:aO:=fun args h=>
 match args,h with
 |[.c (.sl 0 0 n 1 none),.c (.int .i64 0),.c (.int .i64 n2)],[.live (.ints .i64 v)]=>
  some (.tup [],[.live (.ints .i64 (cW v))],[decide (v.length≤274877906944),decide (n=v.length),decide (n2=(v.length:Int))])
 |_,_=>none
theorem aB8:aR Tryz.prog 271 K1:=by
 intro args h res h' o he ho
 unfold K1 at he
 split at he
 case h_2=>cases he
 rename_i n n2 v
 simp only[Option.some.injEq,Prod.mk.injEq]at he
 obtain⟨rfl,rfl,rfl⟩:=he
 simp only[List.mem_cons,List.not_mem_nil,or_false,forall_eq_or_imp,forall_eq,decide_eq_true_eq]at ho
 obtain⟨o1,o2,o3⟩:=ho
 subst o2 o3
 exact mo (fn:=f166) t31 (Y9 v) (by simp) (hlc:=(fun cc hc=>aL.cons (c:=cc) (by cases hc;kernel_rfl) (by cases hc;exact a9C v o1) aL.nil))
noncomputable def T32:List aZ:=[⟨271,[0],K1⟩]++T31
theorem e32:aA Tryz.prog T32:=by
 refine aA.append ?_ e31
 intro e he
 simp only[List.mem_cons,List.not_mem_nil,or_false]at he
 subst he;exact aB8
theorem t32:bL Tryz.prog (aH T32):=aQ e32
theorem Y2 (v:List Int) (lim:Int):aJ tt (aH T32) ([]) 100 Tryz.f248 [.c (.sl 0 0 v.length 1 none),.c (.int .i64 0),.c (.int .i64 v.length),.c (.int .i64 lim)] [.live (.ints .i64 v)] [(0,true)]=
  some ⟨.tup [],[.live (.ints .i64 (cW v))],(decide (IntKind.i64.wrap ((↑v.length:Int)-0)≤12)&&(decide (v.length≤274877906944)&&(decide (v.length=v.length)&&((decide ((↑v.length:Int)=(↑v.length:Int)))&&true)))),[]⟩:=by kernel_rfl
def K4:aO:=fun args h=>
 match args,h with
 |[.c (.sl 0 0 n 1 none),.c (.int .i64 0),.c (.int .i64 n2),.c (.int .i64 lim)],[.live (.ints .i64 v)]=>
  some (.tup [],[.live (.ints .i64 (cW v))],[decide (v.length≤12),decide (n=v.length),decide (n2=(v.length:Int))])
 |_,_=>none
theorem aAO:aR Tryz.prog 248 K4:=by
 intro args h res h' o he ho
 unfold K4 at he
 split at he
 case h_2=>cases he
 rename_i n n2 lim v
 simp only[Option.some.injEq,Prod.mk.injEq]at he
 obtain⟨rfl,rfl,rfl⟩:=he
 simp only[List.mem_cons,List.not_mem_nil,or_false,forall_eq_or_imp,forall_eq,decide_eq_true_eq]at ho
 obtain⟨o1,o2,o3⟩:=ho
 subst o2 o3
 exact mo t32 (Y2 v lim) (by
  rw[Int.sub_zero,aF (by omega) (by omega)]
  simp;omega)
def a1E (n:Int):Int:=[0,1,2,2,3,3,3,3,4].getD n.toNat 0
def xS:aO:=fun args h=>
 match args,h with
 |[.c (.int .u64 n)],[]=>
  some (.c (.int .i64 (a1E n)),[],[bet n 0 8])
 |_,_=>none
theorem aBA:aR Tryz.prog 281 xS:=by
 intro args h res h' o he ho
 unfold xS at he
 split at he
 case h_2=>cases he
 rename_i n
 simp only[Option.some.injEq,Prod.mk.injEq]at he
 obtain⟨rfl,rfl,rfl⟩:=he
 simp only[List.mem_cons,List.not_mem_nil,or_false,forall_eq_or_imp,forall_eq,decide_eq_true_eq]at ho
 have o1:=ho
 have hb:=bQ.1 o1
 have all:cN (fun k=>k9 (aJ tt (aH T32) [] 1000 Tryz.f281 [.c (.int .u64 (k:Nat))] [] []) (a1E (k:Nat))) 9=true:=by kernel_rfl
 have e:=iB (aX all n.toNat (by omega))
 rw[show((n.toNat:Nat):Int)=n from by omega]at e
 exact mo t32 e rfl
noncomputable def T33:List aZ:=[⟨248,[0],K4⟩,⟨281,[],xS⟩]++T32
theorem e33:aA Tryz.prog T33:=by
 refine aA.append ?_ e32
 intro e he
 simp only[List.mem_cons,List.not_mem_nil,or_false]at he
 rcases he with rfl|rfl
 ·exact aAO
 ·exact aBA
theorem t33:bL Tryz.prog (aH T33):=aQ e33
theorem a9Q:aR Tryz.prog 249 (dW tt (aH T33) Tryz.f249 []):=cJ hT t33 bE [] (by kernel_rfl) (by kernel_rfl)
noncomputable def T34:List aZ:=[⟨249,[],dW tt (aH T33) Tryz.f249 []⟩]++T33
theorem e34:aA Tryz.prog T34:=by
 refine aA.append ?_ e33
 intro e he
 simp only[List.mem_cons,List.not_mem_nil,or_false]at he
 subst he;exact a9Q
theorem t34:bL Tryz.prog (aH T34):=aQ e34
theorem XL (v:List Int):aJ tt (aH T34) ([]) 100 Tryz.f211 [.c (.sl 0 0 v.length 1 none)] [.live (.ints .i64 v)] []=
  some ⟨.tup [],[.live (.ints .i64 (cW v))],((bet (IntKind.u64.wrap (↑v.length:Int)) 0 8&&true)&&(decide (v.length≤12)&&(decide (v.length=v.length)&&((decide ((↑v.length:Int)=(↑v.length:Int)))&&true)))),[]⟩:=by kernel_rfl
end
section
def DF:aO:=fun args h=>
 match args,h with
 |[.c (.sl 0 0 n 1 none)],[.live (.ints .i64 v)]=>
  some (.tup [],[.live (.ints .i64 (cW v))],[decide (v.length≤8),decide (n=v.length)])
 |_,_=>none
theorem aA2:aR Tryz.prog 211 DF:=by
 intro args h res h' o he ho
 unfold DF at he
 split at he
 case h_2=>cases he
 rename_i n v
 simp only[Option.some.injEq,Prod.mk.injEq]at he
 obtain⟨rfl,rfl,rfl⟩:=he
 simp only[List.mem_cons,List.not_mem_nil,or_false,forall_eq_or_imp,forall_eq,decide_eq_true_eq]at ho
 obtain⟨o1,o2⟩:=ho
 subst o2
 exact mo t34 (XL v) (by
  have hw:IntKind.u64.wrap (v.length:Int)=v.length:=by simp[IntKind.wrap,IntKind.bits,IntKind.signed];omega
  rw[hw]
  simp[bet];omega)
def zJ (n t:Nat) (v:List Int):List Int:=(v.set t (v.getD (n-1-t) 0)).set (n-1-t) (v.getD t 0)
def jA (v:List Int):List Int:=bI (zJ v.length) (v.length/2) 0 v
noncomputable abbrev f114:=Tryz.f212
noncomputable def A3 (n:Nat) (v:List Int) (i j:Int):St:=aS f114.ntmps [(0,.c (.sl 0 0 n 1 none)),(2,.c (.int .i64 i)),(3,.c (.int .i64 j))] [.live (.ints .i64 v)]
noncomputable def NY (v:List Int):St:=aS f114.ntmps [] [.live (.ints .i64 v)]
theorem V4 (n:Nat) (v:List Int) (i j:Int):aK 1 (aE f114 0) (aG f114 0) (aM tt (aH T34) ([]) 1 100 (aC 0 (aB f114)) (A3 n v i j) [(0,true)])=
  some (.normal,(decide (i<j)&&(decide (0≤j)&&(decide (j<(↑n:Int))&&(decide (j.toNat<v.length)&&(decide (0≤i)&&(decide (i<(↑n:Int))&&(decide (i.toNat<v.length)&&(decide (0≤i)&&(decide (i<(↑n:Int))&&(decide (i.toNat<v.length)&&(decide (0≤j)&&(decide (j<(↑n:Int))&&((decide (j.toNat<(v.set i.toNat (v.getD j.toNat 0)).length))&&true))))))))))))),[],A3 n ((v.set i.toNat (v.getD j.toNat 0)).set j.toNat (v.getD i.toNat 0)) (IntKind.i64.wrap (i+1)) (IntKind.i64.wrap (j-1))):=by kernel_rfl
theorem V5 (n:Nat) (v:List Int) (i j:Int):aK 1 (aE f114 0) (aG f114 0) (aM tt (aH T34) ([]) 1 100 (aC 0 (aB f114)) (A3 n v i j) [(0,false)])=
  some (.exit 0,((!decide (i<j))&&true),[],NY (v)):=by kernel_rfl
theorem a8W (v:List Int) (hl:v.length≤274877906944):
  aP none Tryz.prog 1 (.block 0 (.loop (aC 0 (aB f114)))) (A3 v.length v 0 ((v.length:Int)-1)) fun e t=>e=.normal∧t=NY (jA v):=by
 have key:=aP.count (ro:=none) hT t34 bE (m:=1) (id:=0) (body:=aC 0 (aB f114)) (v.length/2) (fun _ b=>b.length=v.length) (fun t b=>A3 v.length b t ((v.length:Int)-1-t)) (fun b=>NY b) (zJ v.length) (aE f114 0) (aG f114 0)
  (fun _ _=>[]) (fun _ _ _ _=>aL.nil) (fun t b ht hb=>⟨by simp[zJ,hb], ?_⟩) (fun b hb=> ?_) v rfl
 ·rw[Int.natCast_zero,Int.sub_zero]at key
  exact key
 ·have e:=V4 v.length b t ((v.length:Int)-1-t)
  rw[aF (i:=(t:Int)+1) (by omega) (by omega),cQ (i:=(v.length:Int)-1-t-1) (by omega) (by omega),Int.toNat_natCast,show((v.length:Int)-1-t).toNat=v.length-1-t from by omega]at e
  rw[show(v.length:Int)-1-((t+1:Nat):Int)=(v.length:Int)-1-t-1 from by omega]
  refine⟨_,_,⟨_,_,e, ?_,by simp⟩⟩
  simp only[List.length_set,Bool.and_true,rpS,Bool.and_eq_true,decide_eq_true_eq]
  omega
 ·have e:=V5 v.length b (v.length/2:Nat) ((v.length:Int)-1-(v.length/2:Nat))
  refine⟨_,_,⟨_,_,e, ?_,by simp⟩⟩
  simp only[Bool.and_true,rpS,Bool.not_eq_true',decide_eq_false_iff_not]
  omega
def XM (v:List Int):=bt1 (IntKind.i64.wrap ((v.length:Int)-1)) (P:=fun q0=>(aJ tt (aH T34) ([(0,⟨aE f114 0,A3 v.length v 0 q0,.normal,NY (jA v)⟩)]) 100 f114 [.c (.sl 0 0 v.length 1 none)] [.live (.ints .i64 v)]) []=
  some ⟨.tup [],[.live (.ints .i64 (jA v))],true,[A3 v.length v 0 q0=A3 v.length v 0 q0]⟩) (by kernel_rfl)
def K6:aO:=fun args h=>
 match args,h with
 |[.c (.sl 0 0 n 1 none)],[.live (.ints .i64 v)]=>
  some (.tup [],[.live (.ints .i64 (jA v))],[decide (v.length≤274877906944),decide (n=v.length)])
 |_,_=>none
theorem aA3:aR Tryz.prog 212 K6:=by
 intro args h res h' o he ho
 unfold K6 at he
 split at he
 case h_2=>cases he
 rename_i n v
 simp only[Option.some.injEq,Prod.mk.injEq]at he
 obtain⟨rfl,rfl,rfl⟩:=he
 simp only[List.mem_cons,List.not_mem_nil,or_false,forall_eq_or_imp,forall_eq,decide_eq_true_eq]at ho
 obtain⟨o1,o2⟩:=ho
 subst o2
 have g:=a8W v o1
 have e:=XM v
 rw[cQ (by omega) (by omega)]at e
 exact mo (fn:=f114) t34 e (by simp) (hlc:=(fun cc hc=>aL.cons (c:=cc) (by cases hc;kernel_rfl) (by cases hc;exact g) aL.nil))
noncomputable abbrev f115:=Tryz.f213
noncomputable def oJ (v:List Int) (k:Int):St:=aS f115.ntmps [(0,.c (.sl 0 0 v.length 1 none)),(3,.c (.int .i64 k))] [.live (.ints .i64 v)]
noncomputable def yA (n k0:Nat) (v:List Int) (k k2:Int):St:=
 aS f115.ntmps [(0,.c (.sl 0 0 n 1 none)),(3,.c (.int .i64 k)),(4,.c (.sl 0 k0 (n-k0) 1 none)),(5,.c (.int .i64 k2))] [.live (.ints .i64 v)]
noncomputable def L0 (n:Nat) (v:List Int) (k:Int):St:=aS f115.ntmps [(0,.c (.sl 0 0 n 1 none)),(3,.c (.int .i64 k))] [.live (.ints .i64 v)]
def uG (n k0:Nat) (v:List Int) (k k2:Int):=bt7 (aM tt (aH T34) ([]) 1 100 (aC 2 (aB f115)) (yA n k0 v k k2)) (↑(n-k0):Int) (aK 1 (aE f115 2) (aG f115 2)) (IntKind.i64.wrap (k2-1)) (k2.toNat+k0) (IntKind.i64.wrap (k2+1)) (k2-1) (P:=fun q0 q1 q2 q3 q4 q5 q6=>q2 (q0 [(0,true),(0,true)])=
  some (.normal,(decide (k2<q1)&&(decide (0≤k2)&&(decide (k2<q1)&&(decide (k2.toNat+k0<v.length)&&(decide (0≤IntKind.i64.wrap q6)&&(decide (IntKind.i64.wrap q6<q1)&&(decide (q3.toNat+k0<v.length)&&((v.getD q4 0 !=v.getD (q3.toNat+k0) 0)&&(decide (0≤k2)&&(decide (k2<q1)&&(decide (k2.toNat+k0<v.length)&&(decide (0≤k)&&(decide (k<(↑n:Int))&&((decide (k.toNat<v.length))&&true)))))))))))))),[],yA n k0 (v.set k.toNat (v.getD q4 0)) (IntKind.i64.wrap (k+1)) q5)∧q2 (q0 [(0,true),(0,false)])=
  some (.normal,(decide (k2<q1)&&(decide (0≤k2)&&(decide (k2<q1)&&(decide (k2.toNat+k0<v.length)&&(decide (0≤IntKind.i64.wrap q6)&&(decide (IntKind.i64.wrap q6<q1)&&(decide (q3.toNat+k0<v.length)&&((!v.getD q4 0 !=v.getD (q3.toNat+k0) 0)&&true)))))))),[],yA n k0 (v) (k) q5)∧q2 (q0 [(0,false)])=
  some (.exit 2,((!decide (k2<q1))&&true),[],L0 n (v) (k))) ⟨by kernel_rfl,by kernel_rfl,by kernel_rfl⟩
def PR (n k0:Nat) (v:List Int) (k k2:Int):=(uG n k0 v k k2).1
def PS (n k0:Nat) (v:List Int) (k k2:Int):=(uG n k0 v k k2).2.1
def PT (n k0:Nat) (v:List Int) (k k2:Int):=(uG n k0 v k k2).2.2
noncomputable def KU (n:Nat) (v:List Int):St:=aS f115.ntmps [(0,.c (.sl 0 0 n 1 none))] [.live (.ints .i64 v)]
noncomputable def OL (n:Nat) (v:List Int) (k:Nat):St:=
 aS f115.ntmps [(0,.c (.sl 0 0 n 1 none)),(2,.c (.sl 0 0 k 1 none))] [.live (.ints .i64 (v.take k++(List.replicate (n-k) 0++v.drop (k+(n-k)))))]
def PQ (v v':List Int) (k k0:Nat):=bt5 (↑k0:Int) (aM tt (aH T34) ([(2,⟨aE f115 2,yA v.length k0 v k0 1,.normal,L0 v.length v' k⟩)]) 1 100 (aC 0 (aB f115)) (oJ v k0)) (↑v.length:Int) (aK 1 (aE f115 0) (aG f115 0)) (↑k:Int) (P:=fun q0 q1 q2 q3 q4=>q3 (q1 [(0,true),(0,true)])=
  some (.ret,(rp2 (decide (q0<q2)) (decide (q0.toNat<v.length)&&(decide (0≤IntKind.i64.wrap (q0-1))&&(decide (IntKind.i64.wrap (q0-1)<q2)&&(decide ((IntKind.i64.wrap (q0-1)).toNat<v.length)&&((v.getD q0.toNat 0==v.getD (IntKind.i64.wrap (q0-1)).toNat 0)&&(decide (q0≤q2)&&(decide (q4≤q2)&&(decide (q4.toNat+(v.length-q4.toNat)≤v'.length)&&((decide (q4≤q2))&&true)))))))))),[yA v.length k0 v k0 1=yA v.length k0 v k0 1],OL v.length v' k)∧q3 (q1 [(0,true),(0,false)])=
  some (.normal,(rp2 (decide (q0<q2)) (decide (q0.toNat<v.length)&&(decide (0≤IntKind.i64.wrap (q0-1))&&(decide (IntKind.i64.wrap (q0-1)<q2)&&(decide ((IntKind.i64.wrap (q0-1)).toNat<v.length)&&((!v.getD q0.toNat 0==v.getD (IntKind.i64.wrap (q0-1)).toNat 0)&&true)))))),[],oJ v (IntKind.i64.wrap ((k0:Int)+1)))) ⟨by kernel_rfl,by kernel_rfl⟩
def V6 (v v':List Int) (k k0:Nat):=(PQ v v' k k0).1
theorem V7 (v v':List Int) (k k0:Nat) (lcv:List (Nat×LC)):aK 1 (aE f115 0) (aG f115 0) (aM tt (aH T34) (lcv) 1 100 (aC 0 (aB f115)) (oJ v k0) [(0,false)])=
  some (.exit 0,((!decide ((↑k0:Int)<(↑v.length:Int)))&&true),[],KU v.length v):=by kernel_rfl
def ML (v:List Int) (k0:Nat):=bt4 (↑k0:Int) (aM tt (aH T34) ([]) 1 100 (aC 0 (aB f115)) (oJ v k0)) (aK 1 (aE f115 0) (aG f115 0)) (↑v.length:Int) (P:=fun q0 q1 q2 q3=>q2 (q1 [(0,true),(0,false)])=
  some (.normal,(rp2 (decide (q0<q3)) (decide (q0.toNat<v.length)&&(decide (0≤IntKind.i64.wrap (q0-1))&&(decide (IntKind.i64.wrap (q0-1)<q3)&&(decide ((IntKind.i64.wrap (q0-1)).toNat<v.length)&&((!v.getD q0.toNat 0==v.getD (IntKind.i64.wrap (q0-1)).toNat 0)&&true)))))),[],oJ v (IntKind.i64.wrap ((k0:Int)+1)))∧q2 (q1 [(0,false)])=
  some (.exit 0,((!decide (q0<q3))&&true),[],KU v.length v)) ⟨by kernel_rfl,by kernel_rfl⟩
def PU (v:List Int) (k0:Nat):=(ML v k0).1
def eP (v:List Int):Nat→List Int
 |0=>[]
 |n+1=>bif Nat.beq n 0||v.getD n 0 !=v.getD (n-1) 0 then eP v n++[v.getD n 0]else eP v n
def jH (v:List Int):List Int:=eP v v.length
theorem kS {v:List Int}: ∀(n:Nat),n≤v.length→(∀k,1≤k→k<n→(v.getD k 0==v.getD (k-1) 0)=false)→eP v n=v.take n
 |0,_,_=>by simp[eP]
 |n+1,hn,h=>by
  simp only[eP]
  rw[kS n (by omega) (fun k h1 h2=>h k h1 (by omega)),iV hn]
  have:(Nat.beq n 0||v.getD n 0 !=v.getD (n-1) 0)=true:=by
   by_cases h0:n=0
   ·subst h0;rfl
   ·have:=h n (by omega) (by omega)
    rw[bne,this];simp
  rw[this];rfl
def yK (k0 t:Nat) (v0:List Int) (s:List Int×Nat):List Int×Nat:=bif v0.getD (k0+1+t) 0 !=v0.getD (k0+t) 0 then(s.1.set s.2 (v0.getD (k0+1+t) 0),s.2+1)else s
def zZ (v:List Int) (k0 t:Nat) (s:List Int×Nat):Prop:=s.1.length=v.length∧s.2≤k0+t∧(∀q,s.2≤q→s.1.getD q 0=v.getD q 0)∧s.1.take s.2=eP v (k0+1+t)
theorem sT {v:List Int} {k0 t:Nat} {s:List Int×Nat} (h:zZ v k0 t s) (ht:k0+1+t<v.length):zZ v k0 (t+1) (yK k0 t v s):=by
 obtain⟨h1,h2,h3,h4⟩:=h
 unfold yK
 have hc:eP v (k0+1+(t+1))=bif v.getD (k0+1+t) 0 !=v.getD (k0+t) 0 then eP v (k0+1+t)++[v.getD (k0+1+t) 0]else eP v (k0+1+t):=by
  rw[show k0+1+(t+1)=(k0+1+t)+1 from by omega]
  simp only[eP]
  rw[show k0+1+t-1=k0+t from by omega]
  have:Nat.beq (k0+1+t) 0=false:=by
   cases h:Nat.beq _ 0 with
   |false=>rfl
   |true=>have:=Nat.eq_of_beq_eq_true h;omega
  rw[this,Bool.false_or]
 unfold zZ
 rw[hc]
 cases hq:v.getD (k0+1+t) 0 !=v.getD (k0+t) 0 with
 |true=>
  simp only[cond_true]
  refine⟨by simp[h1],by omega,fun q hq'=> ?_, ?_⟩
  ·rw[bC,if_neg (by omega)];exact h3 q (by omega)
  ·rw[iV (by rw[List.length_set];omega),List.take_set,List.set_eq_of_length_le (by rw[List.length_take];omega),bC,if_pos ⟨rfl,by omega⟩,h4]
 |false=>
  simp only[cond_false]
  exact⟨h1,by omega,h3,h4⟩
theorem oO {v:List Int} {k0:Nat} (h0:1≤k0) (h1:k0<v.length) (he:(v.getD k0 0==v.getD (k0-1) 0)=true) (hd: ∀k,1≤k→k<k0→(v.getD k 0==v.getD (k-1) 0)=false):zZ v k0 0 (v,k0):=by
 refine⟨rfl,by dsimp only;omega,fun q _=>rfl, ?_⟩
 dsimp only
 rw[Nat.add_zero]
 simp only[eP]
 have hb:Nat.beq k0 0=false:=by
   cases h:Nat.beq _ 0 with
   |false=>rfl
   |true=>have:=Nat.eq_of_beq_eq_true h;omega
 rw[hb,Bool.false_or,bne,he]
 exact(kS k0 (by omega) hd).symm
theorem a0Y (v:List Int) (k0:Nat) (hl:v.length≤274877906944) (h1:k0<v.length) (hi:zZ v k0 0 (v,k0)):
  aP none Tryz.prog 1 (.block 2 (.loop (aC 2 (aB f115)))) (yA v.length k0 v k0 1) fun e t=>e=.normal∧
   t=L0 v.length (bI (fun t s=>yK k0 t v s) (v.length-k0-1) 0 (v,k0)).1 (bI (fun t s=>yK k0 t v s) (v.length-k0-1) 0 (v,k0)).2:=by
 refine aP.count (ro:=none) hT t34 bE (m:=1) (id:=2) (body:=aC 2 (aB f115)) (v.length-k0-1) (zZ v k0) (fun t s=>yA v.length k0 s.1 s.2 (1+t:Nat)) (fun s=>L0 v.length s.1 s.2) (fun t s=>yK k0 t v s) (aE f115 2) (aG f115 2)
  (fun _ _=>[]) (fun _ _ _ _=>aL.nil) (fun t s ht h=>⟨sT h (by omega), ?_⟩) (fun s h=> ?_) (v,k0) hi
 ·obtain⟨d1,d2,d3,d4⟩:=h
  have hw:IntKind.i64.wrap (((1+t:Nat):Int)-1)=(t:Nat):=by rw[cQ (by omega) (by omega)];omega
  have e1:=d3 (1+t+k0) (by omega)
  have e2:=d3 (t+k0) (by omega)
  unfold yK
  rw[show k0+1+t=1+t+k0 from by omega,show k0+t=t+k0 from by omega]
  cases hq:v.getD (1+t+k0) 0 !=v.getD (t+k0) 0 with
  |true=>
   have e:=PR v.length k0 s.1 s.2 (1+t:Nat)
   rw[hw,aF (i:=(s.2:Int)+1) (by omega) (by omega),aF (i:=((1+t:Nat):Int)+1) (by omega) (by omega),Int.toNat_natCast,Int.toNat_natCast,Int.toNat_natCast,e1,e2]at e
   refine⟨_,_,⟨_,_,e, ?_,by simp⟩⟩
   simp only[hq,Bool.true_and,rpS,Bool.and_true,Bool.and_eq_true,decide_eq_true_eq]
   omega
  |false=>
   have e:=PS v.length k0 s.1 s.2 (1+t:Nat)
   rw[hw,aF (i:=((1+t:Nat):Int)+1) (by omega) (by omega),Int.toNat_natCast,Int.toNat_natCast,e1,e2]at e
   refine⟨_,_,⟨_,_,e, ?_,by simp⟩⟩
   simp only[hq,Bool.not_false,Bool.true_and,rpS,Bool.and_true,Bool.and_eq_true,decide_eq_true_eq]
   omega
 ·have e:=PT v.length k0 s.1 s.2 (1+(v.length-k0-1):Nat)
  refine⟨_,_,⟨_,_,e, ?_,by simp⟩⟩
  simp only[Bool.and_true,rpS,Bool.not_eq_true',decide_eq_false_iff_not]
  omega
theorem ON:aC 2 (aC 0 (aB f115))=aC 2 (aB f115):=by kernel_rfl
def AU (v:List Int) (k0:Nat):List Int×Nat:=bI (fun t s=>yK k0 t v s) (v.length-k0-1) 0 (v,k0)
def yJ (v:List Int) (t:Nat) (_:Unit):Unit⊕(List Int×Nat):=bif v.getD (1+t) 0==v.getD t 0 then .inr (AU v (1+t))else .inl ()
theorem a8X (v:List Int) (hl:v.length≤274877906944):
  aP none Tryz.prog 1 (.block 0 (.loop (aC 0 (aB f115)))) (oJ v 1) fun e t=>match cG (yJ v) (v.length-1) 0 ()with
   |.inl _=>e=.normal∧t=KU v.length v
   |.inr c=>e=.ret∧t=OL v.length c.1 c.2:=by
 have key:=aP.countE (ro:=none) hT t34 bE (m:=1) (id:=0) (body:=aC 0 (aB f115)) (v.length-1) (fun t _=> ∀k,1≤k→k<1+t→(v.getD k 0==v.getD (k-1) 0)=false) (fun t _=>oJ v (1+t:Nat)) (fun _=>KU v.length v)
  (fun c=>OL v.length c.1 c.2) .ret (.inr rfl) (yJ v) (aE f115 0) (aG f115 0)
  (fun t _=>bif v.getD (1+t) 0==v.getD t 0 then [(2,⟨aE f115 2,yA v.length (1+t) v (1+t:Nat) 1,.normal,L0 v.length (AU v (1+t)).1 (AU v (1+t)).2⟩)]else []) (fun t _ ht h=> ?_) (fun t _ ht h=> ?_) (fun _ h=> ?_) () (fun k h1 h2=>by omega)
 ·refine aP.mono key fun e t h=> ?_
  revert h
  cases cG (yJ v) (v.length-1) 0 ()<;>exact fun h=>h
 ·cases hq:v.getD (1+t) 0==v.getD t 0 with
  |true=>exact aL.cons (by kernel_rfl) (by rw[ON];exact a0Y v (1+t) hl (by omega) (oO (by omega) (by omega) (by rw[show 1+t-1=t from by omega];exact hq) h)) aL.nil
  |false=>exact aL.nil
 ·have hw:IntKind.i64.wrap (((1+t:Nat):Int)-1)=(t:Nat):=by rw[cQ (by omega) (by omega)];omega
  unfold yJ
  cases hq:v.getD (1+t) 0==v.getD t 0 with
  |true=>
   refine .inr ⟨_,rfl, ?_⟩
   have hi:=oO (v:=v) (k0:=1+t) (by omega) (by omega) (by rw[show 1+t-1=t from by omega];exact hq) h
   have fin:=aY (step:=fun u s=>yK (1+t) u v s) (zZ v (1+t)) (v.length-(1+t)-1) (v,1+t) hi fun u s hu h=>sT h (by omega)
   have e:=V6 v (AU v (1+t)).1 (AU v (1+t)).2 (1+t)
   rw[hw,Int.toNat_natCast,Int.toNat_natCast]at e
   obtain⟨f1,f2,f3,f4⟩:=fin
   refine⟨_,_,⟨_,_,e, ?_,by simp⟩⟩
   have g1:(AU v (1+t)).1.length=v.length:=f1
   have g2:(AU v (1+t)).2≤1+t+(v.length-(1+t)-1):=f2
   simp only[hq,Int.toNat_natCast,Bool.true_and,rpS,Bool.and_true,Bool.and_eq_true,decide_eq_true_eq]
   omega
  |false=>
   refine .inl ⟨(),rfl,fun k h1 h2=> ?_, ?_⟩
   ·by_cases e:k=1+t
    ·subst e;rw[show 1+t-1=t from by omega];exact hq
    ·exact h k h1 (by omega)
   ·have e:=PU v (1+t)
    rw[hw,Int.toNat_natCast,Int.toNat_natCast,aF (by omega) (by omega)]at e
    refine⟨_,_,⟨_,_,e, ?_,by simp⟩⟩
    simp only[hq,Bool.not_false,Bool.true_and,rpS,Bool.and_true,Bool.and_eq_true,decide_eq_true_eq]
    omega
 ·have e:=V7 v [] 0 (1+(v.length-1)) []
  refine⟨_,_,⟨_,_,e, ?_,by simp⟩⟩
  simp only[Bool.and_true,rpS,Bool.not_eq_true',decide_eq_false_iff_not]
  omega
end
section
theorem RD (v:List Int):aJ tt (aH T34) ([]) 100 f115 [.c (.sl 0 0 v.length 1 none)] [.live (.ints .i64 v)] [(0,true)]=
  some ⟨.c (.sl 0 0 v.length 1 none),[.live (.ints .i64 v)],((decide ((↑v.length:Int)<2))&&true),[]⟩:=by kernel_rfl
def NK (v:List Int):=bt2 (aJ tt (aH T34) ([(0,⟨aE f115 0,oJ v 1,.normal,KU v.length v⟩)]) 100 f115 [.c (.sl 0 0 v.length 1 none)] [.live (.ints .i64 v)]) (↑v.length:Int) (P:=fun q0 q1=>q0 [(0,true)]=
  some ⟨.c (.sl 0 0 v.length 1 none),[.live (.ints .i64 v)],((decide (q1<2))&&true),[]⟩∧q0 [(0,false)]=
  some ⟨.c (.sl 0 0 v.length 1 none),[.live (.ints .i64 v)],((!decide (q1<2))&&true),[oJ v 1=oJ v 1]⟩) ⟨by kernel_rfl,by kernel_rfl⟩
def RE (v:List Int):=(NK v).2
theorem RF (v v':List Int) (k:Nat):aJ tt (aH T34) ([(0,⟨aE f115 0,oJ v 1,.ret,OL v.length v' k⟩)]) 100 f115 [.c (.sl 0 0 v.length 1 none)] [.live (.ints .i64 v)] [(0,false)]=
  some ⟨.c (.sl 0 0 k 1 none),[.live (.ints .i64 (List.take k v'++(List.replicate (v.length-k) 0++List.drop (k+(v.length-k)) v')))],((!decide ((↑v.length:Int)<2))&&true),[oJ v 1=oJ v 1]⟩:=by kernel_rfl
def oH:aO:=fun args h=>
 match args,h with
 |[.c (.sl 0 0 n 1 none)],[.live (.ints .i64 v)]=>
  some (.c (.sl 0 0 (jH v).length 1 none),[.live (.ints .i64 (jH v))],[decide (v.length≤274877906944),decide (n=v.length)])
 |_,_=>none
theorem LP (v:List Int):match cG (yJ v) (v.length-1) 0 ()with
  |.inl _=>jH v=v
  |.inr c=>c.1.length=v.length∧c.2≤v.length∧c.1.take c.2=jH v:=by
 have:=gU (step:=yJ v) (fun t _=> ∀k,1≤k→k<1+t→(v.getD k 0==v.getD (k-1) 0)=false) (fun c=>c.1.length=v.length∧c.2≤v.length∧c.1.take c.2=jH v) (v.length-1) 0 ()
  (fun k h1 h2=>by omega) (fun t _ h1 h2 h=> ?_)
 ·revert this
  cases cG (yJ v) (v.length-1) 0 ()with
  |inl u=>
   intro h
   have:=kS (v:=v) v.length (Nat.le_refl _) (fun k h1 h2=>h k h1 (by omega))
   rw[List.take_length]at this;exact this
  |inr c=>exact fun h=>h
 ·unfold yJ
  cases hq:v.getD (1+t) 0==v.getD t 0 with
  |true=>
   refine⟨fun b' hb=>by simp at hb,fun c hc=> ?_⟩
   simp only[cond_true,Sum.inr.injEq]at hc
   subst hc
   have hi:=oO (v:=v) (k0:=1+t) (by omega) (by omega) (by rw[show 1+t-1=t from by omega];exact hq) h
   have fin:=aY (step:=fun u s=>yK (1+t) u v s) (zZ v (1+t)) (v.length-(1+t)-1) (v,1+t) hi fun u s hu h=>sT h (by omega)
   obtain⟨f1,f2,f3,f4⟩:=fin
   refine⟨f1, ?_, ?_⟩
   ·have g2:(AU v (1+t)).2≤1+t+(v.length-(1+t)-1):=f2
    omega
   ·rw[show 1+t+1+(v.length-(1+t)-1)=v.length from by omega]at f4
    exact f4
  |false=>
   refine⟨fun b' _ k h3 h4=> ?_,fun c hc=>by simp at hc⟩
   by_cases e:k=1+t
   ·subst e;rw[show 1+t-1=t from by omega];exact hq
   ·exact h k h3 (by omega)
theorem aA4:aR Tryz.prog 213 oH:=by
 intro args h res h' o he ho
 unfold oH at he
 split at he
 case h_2=>cases he
 rename_i n v
 simp only[Option.some.injEq,Prod.mk.injEq]at he
 obtain⟨rfl,rfl,rfl⟩:=he
 simp only[List.mem_cons,List.not_mem_nil,or_false,forall_eq_or_imp,forall_eq,decide_eq_true_eq]at ho
 obtain⟨o1,o2⟩:=ho
 subst o2
 by_cases hs:(v.length:Int)<2
 ·have hc:jH v=v:=by
   have:=kS (v:=v) v.length (Nat.le_refl _) (fun k h1 h2=>by omega)
   rw[List.take_length]at this;exact this
  rw[hc]
  exact mo (fn:=f115) t34 (RD v) (by simp[hs])
 ·have g:=a8X v o1
  have sp:=LP v
  cases hr:cG (yJ v) (v.length-1) 0 ()with
  |inl u=>
   rw[hr]at g sp
   dsimp only at g sp
   rw[sp]
   exact mo (fn:=f115) t34 (RE v) (by simp[hs]) (hlc:=(fun cc hc=>aL.cons (c:=cc) (by cases hc;kernel_rfl) (by cases hc;exact g) aL.nil))
  |inr c=>
   rw[hr]at g sp
   dsimp only at g sp
   obtain⟨s1,s2,s3⟩:=sp
   have mm:=mo (f:=213) (fn:=f115) t34 (RF v c.1 c.2) (by simp[hs]) (hlc:=(fun cc hc=>aL.cons (c:=cc) (by cases hc;kernel_rfl) (by cases hc;exact g) aL.nil))
   have hlen:(jH v).length=c.2:=by rw[←s3,List.length_take];omega
   rw[hlen]
   refine mm.slots ⟨?_,trivial⟩
   have h6:(List.take c.2 c.1++(List.replicate (v.length-c.2) 0++List.drop (c.2+(v.length-c.2)) c.1)).take c.2=jH v:=by
    rw[List.take_append_of_le_length (by rw[List.length_take];omega),List.take_take,Nat.min_self];exact s3
   rw[←h6]
   exact fJ.take _ _ _
noncomputable def T35:List aZ:=[⟨211,[0],DF⟩,⟨212,[0],K6⟩,⟨213,[0],oH⟩]++T34
theorem e35:aA Tryz.prog T35:=by
 refine aA.append ?_ e34
 intro e he
 simp only[List.mem_cons,List.not_mem_nil,or_false]at he
 rcases he with rfl|rfl|rfl
 ·exact aA2
 ·exact aA3
 ·exact aA4
theorem t35:bL Tryz.prog (aH T35):=aQ e35
noncomputable abbrev f66:=Tryz.f175
noncomputable def I66 (k:Int) (a b:List Int) (c:List Bool) (v:List Int) (n:Nat) (out:List Int) (i:Int):St:=
 aS f66.ntmps [(1,.c (.ptr 0 0 0 0)),(3,.c (.sl 1 0 n 1 none)),(9,.c (.sl 2 0 v.length 1 none)),(10,.c (.int .i64 v.length)),(11,.c (.int .i64 i))]
  [.live (.cells [.int .i64 k,.view none (.ints .i64 a) a.length 1 none,.view none (.ints .i64 b) b.length 1 none,.view none (.bools c) c.length 1 none]),.live (.ints .i64 out),.live (.ints .i64 v)]
noncomputable def X66 (n:Nat) (out:List Int):St:=aS f66.ntmps [(3,.c (.sl 0 0 n 1 none))] [.live (.ints .i64 out)]
theorem a33 (k:Int) (a b:List Int) (c:List Bool) (v:List Int) (n:Nat) (out:List Int) (i:Int):aK 0 (aE f66 0) (aG f66 0) (aM tt (aH T35) ([]) 0 100 (aC 0 (aB f66)) (I66 k a b c v n out i) [(0,true)])=
  some (.normal,(decide (i<(↑v.length:Int))&&(decide (0≤i)&&(decide (i<(↑v.length:Int))&&(decide (i.toNat<v.length)&&(decide (0≤v.getD i.toNat 0)&&(decide (v.getD i.toNat 0<(↑b.length:Int))&&(decide ((v.getD i.toNat 0).toNat<b.length)&&(decide (n=out.length)&&((decide (n+1≤274877906944))&&true))))))))),[],I66 k a b c v (n+1) (out++[b.getD (v.getD i.toNat 0).toNat 0]) (IntKind.i64.wrap (i+1))):=by kernel_rfl
theorem a34 (k:Int) (a b:List Int) (c:List Bool) (v:List Int) (n:Nat) (out:List Int) (i:Int):aK 0 (aE f66 0) (aG f66 0) (aM tt (aH T35) ([]) 0 100 (aC 0 (aB f66)) (I66 k a b c v n out i) [(0,false)])=
  some (.exit 0,((!decide (i<(↑v.length:Int)))&&true),[],X66 (n) (out)):=by kernel_rfl
def jQ (b v:List Int) (i:Nat) (out:List Int):List Int:=out++[b.getD (v.getD i 0).toNat 0]
def eK (b v:List Int):List Int:=bI (jQ b v) v.length 0 []
def bO (b:List Int) (c:List Bool):List Int:=jH (jA (cW (eK b (flg c))))
def a6I (k:Int) (a b:List Int) (c:List Bool):=bt1 (eK b (flg c)) (P:=fun q0=>(aJ tt (aH T35) ([(0,⟨aE f66 0,I66 k a b c (flg c) 0 [] 0,.normal,X66 q0.length q0⟩)]) 100 f66 [.agg [.int .i64 k,.view none (.ints .i64 a) a.length 1 none,.view none (.ints .i64 b) b.length 1 none,.view none (.bools c) c.length 1 none]] []) []=
  some ⟨.c (.sl 0 0 (jH (jA (cW q0))).length 1 none),[.live (.ints .i64 (jH (jA (cW q0))))],(decide (c.length≤274877906944)&&(decide (q0.length≤8)&&(decide (q0.length=q0.length)&&(decide ((cW q0).length≤274877906944)&&(decide (q0.length=(cW q0).length)&&(decide ((jA (cW q0)).length≤274877906944)&&((decide (q0.length=(jA (cW q0)).length))&&true))))))),[I66 k a b c (flg c) 0 [] 0=I66 k a b c (flg c) 0 [] 0]⟩) (by kernel_rfl)
end
section
theorem pR (b v:List Int):(eK b v).length=v.length:=aY (step:=jQ b v) (fun i o=>o.length=i) v.length [] rfl fun i o _ h=>by simp[jQ,h]
theorem l66 (k:Int) (a b:List Int) (c:List Bool) (v:List Int) (hl:v.length≤8) (hp:d9 v b.length=true):
  aP none Tryz.prog 0 (.block 0 (.loop (aC 0 (aB f66)))) (I66 k a b c v 0 [] 0) fun e t=>e=.normal∧t=X66 (eK b v).length (eK b v):=by
 refine(aP.count (ro:=none) hT t35 bE v.length (fun i o=>o.length=i) (fun i o=>I66 k a b c v o.length o i) (fun o=>X66 o.length o) (jQ b v) (aE f66 0) (aG f66 0)
  (fun _ _=>[]) (fun _ _ _ _=>aL.nil) (fun i o hi h=>⟨by simp[jQ,h], ?_⟩) (fun o h=>⟨_,_,⟨_,_,a34 k a b c v o.length o v.length,by simp,by simp⟩⟩)) [] rfl
 have hb:=gR hp hi
 have e:=a33 k a b c v o.length o i
 rw[aF (by omega) (by omega),Int.toNat_natCast]at e
 have hlen:(jQ b v i o).length=o.length+1:=by simp[jQ]
 rw[hlen]
 refine⟨_,_,⟨_,_,e, ?_,by simp⟩⟩
 simp only[Bool.and_true,rpS,Bool.and_eq_true,decide_eq_true_eq,true_and,and_true]
 omega
theorem uP (v:List Int):(jA v).length=v.length:=aY (step:=zJ v.length) (fun _ o=>o.length=v.length) _ v rfl fun i o _ h=>by simp[zJ,h]
def DM:aO:=fun args h=>
 match args,h with
 |[.agg [.int .i64 k,.view _ (.ints .i64 a) n1 1 _,.view _ (.ints .i64 b) n2 1 _,.view _ (.bools c) n3 1 _]],[]=>
  some (.c (.sl 0 0 (bO b c).length 1 none),[.live (.ints .i64 (bO b c))],[decide (c.length≤8),decide (b.length=c.length)])
 |_,_=>none
theorem m66:aT Tryz.prog 175 DM:=by
 intro args h res h' o hnorm he ho
 unfold DM at he
 split at he
 case h_2=>cases he
 rename_i k nl1 a n1 cap1 nl2 b n2 cap2 nl3 c n3 cap3
 simp only[Option.some.injEq,Prod.mk.injEq]at he
 obtain⟨rfl,rfl,rfl⟩:=he
 simp only[List.mem_cons,List.not_mem_nil,or_false,forall_eq_or_imp,forall_eq,decide_eq_true_eq]at ho
 obtain⟨o1,o2⟩:=ho
 simp only[b8,AV.norm,bA,aI.norm,Con.size,List.cons.injEq,AV.c.injEq,AV.agg.injEq,aI.view.injEq,aN,true_and,and_true]at hnorm
 obtain⟨⟨rfl,rfl,rfl⟩,⟨rfl,rfl,rfl⟩,rfl,rfl,rfl⟩:=hnorm
 have h1:=nC c
 have g:=l66 k a b c (flg c) (by omega) (by rw[o2];exact mD c)
 exact mo (fn:=f66) t35 (a6I k a b c) (by simp[pR,pO,uP];omega) (hlc:=(fun cc hc=>aL.cons (c:=cc) (by cases hc;kernel_rfl) (by cases hc;exact g) aL.nil))
noncomputable def T36:List aZ:=[⟨175,[],nm DM⟩]++T35
theorem e36:aA Tryz.prog T36:=by
 refine aA.append ?_ e35
 intro e he
 simp only[List.mem_cons,List.not_mem_nil,or_false]at he
 subst he;exact m66.ok
theorem t36:bL Tryz.prog (aH T36):=aQ e36
def NO (k:Int) (a b:List Int) (c:List Bool):=bt2 (aJ tt (aH T36) ([]) 100 Tryz.f181 [.agg [.int .i64 k,.view none (.ints .i64 a) a.length 1 none,.view none (.ints .i64 b) b.length 1 none,.view none (.bools c) c.length 1 none]] []) (bO b c) (P:=fun q0 q1=>q0 [(0,true)]=
  some ⟨.c (.int .i64 (q1.getD 0 0)),[],(decide (c.length≤8)&&(decide (b.length=c.length)&&(rp2 (decide (0<(↑q1.length:Int))) ((decide (0<q1.length))&&true)))),[]⟩∧q0 [(0,false)]=
  some ⟨.c (.int .i64 0),[],(decide (c.length≤8)&&(decide (b.length=c.length)&&((!decide (0<(↑q1.length:Int)))&&true))),[]⟩) ⟨by kernel_rfl,by kernel_rfl⟩
def a6P (k:Int) (a b:List Int) (c:List Bool):=(NO k a b c).1
def a6Q (k:Int) (a b:List Int) (c:List Bool):=(NO k a b c).2
def iH (b:List Int) (c:List Bool):Int:=(bO b c).getD 0 0
def KF:aO:=fun args h=>
 match args,h with
 |[.agg [.int .i64 k,.view _ (.ints .i64 a) n1 1 _,.view _ (.ints .i64 b) n2 1 _,.view _ (.bools c) n3 1 _]],[]=>
  some (.c (.int .i64 (iH b c)),[],[decide (c.length≤8),decide (b.length=c.length)])
 |_,_=>none
theorem m73:aT Tryz.prog 181 KF:=by
 intro args h res h' o hnorm he ho
 unfold KF at he
 split at he
 case h_2=>cases he
 rename_i k nl1 a n1 cap1 nl2 b n2 cap2 nl3 c n3 cap3
 simp only[Option.some.injEq,Prod.mk.injEq]at he
 obtain⟨rfl,rfl,rfl⟩:=he
 simp only[List.mem_cons,List.not_mem_nil,or_false,forall_eq_or_imp,forall_eq,decide_eq_true_eq]at ho
 obtain⟨o1,o2⟩:=ho
 simp only[b8,AV.norm,bA,aI.norm,Con.size,List.cons.injEq,AV.c.injEq,AV.agg.injEq,aI.view.injEq,aN,true_and,and_true]at hnorm
 obtain⟨⟨rfl,rfl,rfl⟩,⟨rfl,rfl,rfl⟩,rfl,rfl,rfl⟩:=hnorm
 by_cases h0:0<((bO b c).length:Int)
 ·exact mo t36 (a6P k a b c) (by simp only[Bool.and_eq_true,rpS,decide_eq_true_eq,Bool.and_true];omega)
 ·have hz:iH b c=0:=by
   have:bO b c=[]:=List.eq_nil_of_length_eq_zero (by omega)
   unfold iH;rw[this];rfl
  rw[hz]
  exact mo t36 (a6Q k a b c) (by simp only[Bool.and_eq_true,rpS,decide_eq_true_eq,Bool.and_true,Bool.not_eq_true',decide_eq_false_iff_not];omega)
theorem aBS:aR Tryz.prog 216 (dW tt (aH T36) Tryz.f216 []):=cJ hT t36 bE [] (by kernel_rfl) (by kernel_rfl)
noncomputable def T37:List aZ:=[⟨181,[],nm KF⟩,⟨216,[1],dW tt (aH T36) Tryz.f216 []⟩]++T36
theorem e37:aA Tryz.prog T37:=by
 refine aA.append ?_ e36
 intro e he
 simp only[List.mem_cons,List.not_mem_nil,or_false]at he
 rcases he with rfl|rfl
 ·exact m73.ok
 ·exact aBS
theorem t37:bL Tryz.prog (aH T37):=aQ e37
noncomputable abbrev gA:=Tryz.f122
noncomputable def lL (k:Int) (n1 n2 n3:Nat) (nl1 nl2 nl3:Option Bool) (cap1 cap2 cap3:Option Nat) (a b:List Int) (c:List Bool) (v:List Int) (i:Int):St:=
 aS gA.ntmps [(0,.c (.sl 0 0 v.length 1 none)),(1,.c (.fn 216 [.ptr 1 0 0 0])),(7,.c (.int .i64 v.length)),(8,.c (.int .i64 i))] [.live (.ints .i64 v),.live (.cells [.int .i64 k,.view nl1 (.ints .i64 a) n1 1 cap1,.view nl2 (.ints .i64 b) n2 1 cap2,.view nl3 (.bools c) n3 1 cap3])]
noncomputable def KY (k:Int) (n1 n2 n3:Nat) (nl1 nl2 nl3:Option Bool) (cap1 cap2 cap3:Option Nat) (a b:List Int) (c:List Bool) (v:List Int):St:=aS gA.ntmps [] [.live (.ints .i64 v),.live (.cells [.int .i64 k,.view nl1 (.ints .i64 a) n1 1 cap1,.view nl2 (.ints .i64 b) n2 1 cap2,.view nl3 (.bools c) n3 1 cap3])]
noncomputable def L6 (k:Int) (n1 n2 n3:Nat) (nl1 nl2 nl3:Option Bool) (cap1 cap2 cap3:Option Nat) (a b:List Int) (c:List Bool) (v:List Int) (i:Int):St:=aS gA.ntmps [(4,.c (.int .i64 i))] [.live (.ints .i64 v),.live (.cells [.int .i64 k,.view nl1 (.ints .i64 a) n1 1 cap1,.view nl2 (.ints .i64 b) n2 1 cap2,.view nl3 (.bools c) n3 1 cap3])]
def uI (k:Int) (n1 n2 n3:Nat) (nl1 nl2 nl3:Option Bool) (cap1 cap2 cap3:Option Nat) (a b:List Int) (c:List Bool) (v:List Int) (i:Int):=bt5 (decide (c.length≤274877906944)&&(decide (b.length=c.length)&&(decide ((ofL b c (v.getD i.toNat 0)).length=(ofL b c (v.getD i.toNat 0)).length)&&(decide ((ofL b c (v.getD i.toNat 0)).length≤8)&&(bet k 1 2&&(bD (ofL b c (v.getD i.toNat 0))&&(decide (a.length=8)&&(aD a&&(dU k a (ofL b c (v.getD i.toNat 0))&&true))))))))) (aM tt (aH T37) ([]) 2 100 (aC 0 (aB gA)) (lL k n1 n2 n3 nl1 nl2 nl3 cap1 cap2 cap3 a b c v i)) (aK 2 (aE gA 0) (aG gA 0)) (↑v.length:Int) (ofL b c (v.getD i.toNat 0)) (P:=fun q0 q1 q2 q3 q4=>q2 (q1 [(0,true),(0,true)])=
  some (.ret,(decide (i<q3)&&(decide (0≤i)&&(decide (i<q3)&&(decide (i.toNat<v.length)&&(q0&&((!cH k a q4)&&true)))))),[],L6 k n1 n2 n3 nl1 nl2 nl3 cap1 cap2 cap3 a b c v (i))∧q2 (q1 [(0,true),(0,false)])=
  some (.normal,(decide (i<q3)&&(decide (0≤i)&&(decide (i<q3)&&(decide (i.toNat<v.length)&&(q0&&((!!cH k a q4)&&true)))))),[],lL k n1 n2 n3 nl1 nl2 nl3 cap1 cap2 cap3 a b c v (IntKind.i64.wrap (i+1)))∧q2 (q1 [(0,false)])=
  some (.exit 0,((!decide (i<q3))&&true),[],KY k n1 n2 n3 nl1 nl2 nl3 cap1 cap2 cap3 a b c v)) ⟨by kernel_rfl,by kernel_rfl,by kernel_rfl⟩
def QA (k:Int) (n1 n2 n3:Nat) (nl1 nl2 nl3:Option Bool) (cap1 cap2 cap3:Option Nat) (a b:List Int) (c:List Bool) (v:List Int) (i:Int):=(uI k n1 n2 n3 nl1 nl2 nl3 cap1 cap2 cap3 a b c v i).1
def QB (k:Int) (n1 n2 n3:Nat) (nl1 nl2 nl3:Option Bool) (cap1 cap2 cap3:Option Nat) (a b:List Int) (c:List Bool) (v:List Int) (i:Int):=(uI k n1 n2 n3 nl1 nl2 nl3 cap1 cap2 cap3 a b c v i).2.1
def QC (k:Int) (n1 n2 n3:Nat) (nl1 nl2 nl3:Option Bool) (cap1 cap2 cap3:Option Nat) (a b:List Int) (c:List Bool) (v:List Int) (i:Int):=(uI k n1 n2 n3 nl1 nl2 nl3 cap1 cap2 cap3 a b c v i).2.2
noncomputable def S8 (k:Int) (n1 n2 n3:Nat) (nl1 nl2 nl3:Option Bool) (cap1 cap2 cap3:Option Nat) (a b:List Int) (c:List Bool) (v:List Int):Option Nat→St
 |some j=>L6 k n1 n2 n3 nl1 nl2 nl3 cap1 cap2 cap3 a b c v j
 |none=>KY k n1 n2 n3 nl1 nl2 nl3 cap1 cap2 cap3 a b c v
theorem a1A (k:Int) (n1 n2 n3:Nat) (nl1 nl2 nl3:Option Bool) (cap1 cap2 cap3:Option Nat) (a b:List Int) (c:List Bool) (v:List Int) (hl:v.length≤274877906944) (hc:c.length≤274877906944) (hbc:b.length=c.length) (hkd:bet k 1 2=true) (ha:a.length=8) (haf:aD a=true) (hok: ∀i,i<v.length→(ofL b c (v.getD i 0)).length≤8∧bD (ofL b c (v.getD i 0))=true∧dU k a (ofL b c (v.getD i 0))=true):
  aP none Tryz.prog 2 (.block 0 (.loop (aC 0 (aB gA)))) (lL k n1 n2 n3 nl1 nl2 nl3 cap1 cap2 cap3 a b c v 0) fun e t=>e=vO (eW (fun x=> !cH k a (ofL b c x)) v)∧t=S8 k n1 n2 n3 nl1 nl2 nl3 cap1 cap2 cap3 a b c v (eW (fun x=> !cH k a (ofL b c x)) v):=by
 refine aP.roundsR (ro:=none) hT t37 bE (m:=2) (id:=0) (body:=aC 0 (aB gA)) (α:=Nat)
  (fun i=>i≤v.length∧dO (fun x=> !cH k a (ofL b c x)) v (v.length-i) i=eW (fun x=> !cH k a (ofL b c x)) v) (fun i=>lL k n1 n2 n3 nl1 nl2 nl3 cap1 cap2 cap3 a b c v i) (fun i=>v.length-i) (aE gA 0) (aG gA 0)
  (fun _=>vO (eW (fun x=> !cH k a (ofL b c x)) v)) (fun _=>S8 k n1 n2 n3 nl1 nl2 nl3 cap1 cap2 cap3 a b c v (eW (fun x=> !cH k a (ofL b c x)) v)) (fun _=>[]) (fun _ _=>aL.nil) (fun i hx=> ?_) 0 ⟨by simp,rfl⟩
 obtain⟨h1,h3⟩:=hx
 by_cases hi:i<v.length
 ·have hk:v.length-i=(v.length-(i+1))+1:=by omega
  rw[hk]at h3
  simp only[dO]at h3
  obtain⟨ho1,ho2,ho3⟩:=hok i hi
  cases hz:(fun x=> !cH k a (ofL b c x)) (v.getD i 0)with
  |false=>
   dsimp only at hz
   rw[hz]at h3
   have e:=QB k n1 n2 n3 nl1 nl2 nl3 cap1 cap2 cap3 a b c v i
   rw[aF (by omega) (by omega),Int.toNat_natCast]at e
   refine⟨_,_,_,_,_,_,e, ?_,by simp,.inl ⟨rfl,i+1,⟨by omega,by simpa using h3⟩,by omega,rfl,rfl,rfl⟩⟩
   simp only[hz,ho2,ho3,hkd,haf,Bool.not_false,Bool.true_and,rpS,Bool.and_true,Bool.and_eq_true,decide_eq_true_eq,true_and,and_true]
   omega
  |true=>
   dsimp only at hz
   rw[hz]at h3
   simp only[cond_true]at h3
   have e:=QA k n1 n2 n3 nl1 nl2 nl3 cap1 cap2 cap3 a b c v i
   rw[Int.toNat_natCast]at e
   refine⟨_,_,_,_,_,_,e, ?_,by simp,.inr (.inr ⟨by simp,by simp, ?_, ?_⟩)⟩
   ·simp only[hz,ho2,ho3,hkd,haf,Bool.true_and,rpS,Bool.and_true,Bool.and_eq_true,decide_eq_true_eq,true_and,and_true]
    omega
   ·rw[←h3];rfl
   ·rw[←h3];rfl
 ·have hz:v.length-i=0:=by omega
  rw[hz]at h3
  simp only[dO]at h3
  exact⟨_,_,_,_,_,_,QC k n1 n2 n3 nl1 nl2 nl3 cap1 cap2 cap3 a b c v i,by simp;omega,by simp,.inr (.inl ⟨rfl,by rw[←h3];rfl,by rw[←h3];rfl⟩)⟩
end
section
theorem BX {β γ:Type} {s:Nat→β→β} {s':Nat→γ→γ} (R:Nat→β→γ→Prop): ∀(f i:Nat) (b:β) (c:γ),R i b c→(∀k b c,i≤k→k<i+f→R k b c→R (k+1) (s k b) (s' k c))→R (i+f) (bI s f i b) (bI s' f i c)
 |0,i,b,c,h,_=>h
 |f+1,i,b,c,h,hs=>by
  have:=BX (s:=s) (s':=s') R f (i+1) (s i b) (s' i c) (hs i b c (Nat.le_refl _) (by omega) h) (fun k b c h1 h2=>hs k b c (by omega) (by omega))
  rw[show i+(f+1)=i+1+f from by omega]
  exact this
theorem xC {β γ:Type} {s:Nat→β→β} {s':Nat→γ→γ} (R:Nat→β→γ→Prop) (n:Nat) (b:β) (c:γ) (h:R 0 b c) (hs: ∀k b c,k<n→R k b c→R (k+1) (s k b) (s' k c)):R n (bI s n 0 b) (bI s' n 0 c):=by
 have:=BX R n 0 b c h (fun k b c _ h2=>hs k b c (by omega))
 rwa[Nat.zero_add]at this
def fD (n:Nat) (zs zs':List Int):Prop:=zs.length=n*5∧zs'.length=n*5∧ ∀j,j<n→ ∀q,q<4→zs.getD (j*5+q) 0=zs'.getD (j*5+q) 0
theorem fD.ld {n:Nat} {zs zs':List Int} (h:fD n zs zs') {i:Nat} (hi:i<n):ld5 zs i=ld5 zs' i:=by
 unfold ld5
 have h0:=h.2.2 i hi 0 (by omega)
 rw[Nat.add_zero]at h0
 rw[h0,h.2.2 i hi 1 (by omega),h.2.2 i hi 2 (by omega),h.2.2 i hi 3 (by omega)]
theorem FC (w w' v ys:List Int) (r:Nat):fD r (lX w v ys r) (lX w' v ys r):=by
 refine xC (fun i zs zs'=>fD i zs zs') r [] [] ⟨rfl,rfl,fun j hj=>by omega⟩ fun k zs zs' hk h=> ?_
 obtain⟨h1,h2,h3⟩:=h
 refine⟨by simp[jO,h1];omega,by simp[jO,h2];omega,fun j hj q hq=> ?_⟩
 unfold jO
 rw[dT,dT,h1,h2]
 by_cases e:j*5+q<k*5
 ·rw[if_pos e,if_pos e];exact h3 j (by omega) q hq
 ·rw[if_neg e,if_neg e]
  have:j=k:=by omega
  subst this
  rw[show j*5+q-j*5=q from by omega]
  match q,hq with
  |0,_|1,_|2,_|3,_=>rfl
theorem gH {n:Nat} {zs:List Int} (hz:zs.length=n*5) {i j:Nat} {at_:Int} (hj:j<n) {p q:Nat} (hp:p<n) (hq:q<4):
  (n6 zs i at_ j).getD (p*5+q) 0=if p=j then elE zs i j at_ q else zs.getD (p*5+q) 0:=by
 unfold n6 lN N6
 by_cases e:p=j
 ·subst e
  rw[if_pos rfl]
  match q,hq with
  |0,_=>
   rw[bC,if_neg (by omega),bC,if_neg (by omega),bC,if_neg (by omega),bC,if_neg (by omega),bC,if_pos ⟨by omega,by omega⟩]
  |1,_=>
   rw[bC,if_neg (by omega),bC,if_neg (by omega),bC,if_neg (by omega),bC,if_pos ⟨by omega,by simp;omega⟩]
  |2,_=>
   rw[bC,if_neg (by omega),bC,if_neg (by omega),bC,if_pos ⟨by omega,by simp;omega⟩]
  |3,_=>
   rw[bC,if_neg (by omega),bC,if_pos ⟨by omega,by simp;omega⟩]
 ·rw[if_neg e]
  rw[bC,if_neg (by omega),bC,if_neg (by omega),bC,if_neg (by omega),bC,if_neg (by omega),bC,if_neg (by omega)]
theorem EE {n i j:Nat} {at_:Int} {zs zs':List Int} (h:fD n zs zs') (hi:i<n) (hj:j<n) (ha:bet at_ 0 3=true):fD n (jJ i at_ j zs) (jJ i at_ j zs'):=by
 have ha':=bQ.1 ha
 obtain⟨h1,h2,h3⟩:=h
 have hc:elC zs at_ j=elC zs' at_ j:=by
  unfold elC
  rw[Nat.mul_one]
  exact h3 j hj _ (by omega)
 unfold jJ
 rw[hc]
 cases ((j:Int)!=(i:Int))&&(elC zs' at_ j !=0)
 ·exact⟨h1,h2,h3⟩
 ·refine⟨by rw[cond_true,kT];exact h1,by rw[cond_true,kT];exact h2,fun p hp q hq=> ?_⟩
  rw[cond_true,cond_true,gH h1 hj hp hq,gH h2 hj hp hq]
  split
  ·unfold elE;rw[h3 j hj q hq,h3 i hi q hq,hc]
  ·exact h3 p hp q hq
theorem EC {n i:Nat} {at_:Int} {zs zs':List Int} (h:fD n zs zs') (hi:i<n) (ha:bet at_ 0 3=true):fD n (wH n i at_ zs) (wH n i at_ zs'):=
 xC (fun _ zs zs'=>fD n zs zs') n zs zs' h fun j zs zs' hj h=>EE h hi hj ha
theorem nT {n:Nat}: ∀(f i:Nat) {zs zs':List Int},fD n zs zs'→i+f≤n→hS n f i zs'=true→hS n f i zs=true∧fD n (bI (lG n) f i zs) (bI (lG n) f i zs')
 |0,i,zs,zs',h,_,_=>⟨rfl,h⟩
 |f+1,i,zs,zs',h,hi,hr=>by
  simp only[hS,Bool.and_eq_true,rpS]at hr⊢
  have hl:=h.ld (i:=i) (by omega)
  have h':fD n (lG n i zs) (lG n i zs'):=by
   unfold lG;rw[hl];exact EC h (by omega) hr.1
  have:=nT f (i+1) h' (by omega) hr.2
  rw[hl]
  exact⟨⟨hr.1,this.1⟩,this.2⟩
theorem uY {k:Int} {w w' v:List Int} (h:dU k w' v=true):dU k w v=true∧fD (spK k v).2.length (eF k w v) (eF k w' v):=by
 simp only[dU,Bool.and_eq_true,rpS,MO]at h⊢
 have t:=FC w w' v (spK k v).1 (spK k v).2.length
 have r:=nT _ 0 t (by omega) h.1
 refine⟨⟨r.1, ?_⟩,r.2⟩
 refine mX fun i hi=> ?_
 have hl:=fD.ld (zs:=eF k w v) (zs':=eF k w' v) r.2 hi
 rw[hl]
 exact aX h.2 i hi
def eQ (m:Nat):List Bool:=[m.testBit 0,m.testBit 1,m.testBit 2,m.testBit 3,m.testBit 4,m.testBit 5,m.testBit 6,m.testBit 7]
def z8:List Int:=[0,0,0,0,0,0,0,0]
def AO (b:Bool) (n:Nat):Nat:=bif b then n else 0
theorem u6 (c:List Bool) (h:c.length=8): ∃m,m<256∧eQ m=c:=by
 match c,h with
 |[a,b,c,d,e,f,g,h],_=>
  refine⟨AO a 1+AO b 2+AO c 4+AO d 8+AO e 16+AO f 32+AO g 64+AO h 128, ?_, ?_⟩
  ·cases a<;>cases b<;>cases c<;>cases d<;>cases e<;>cases f<;>cases g<;>cases h<;>decide
  ·cases a<;>cases b<;>cases c<;>cases d<;>cases e<;>cases f<;>cases g<;>cases h<;>decide
end
end Go.Proofs.YtdnfojanjejdgaaGreat.Am
