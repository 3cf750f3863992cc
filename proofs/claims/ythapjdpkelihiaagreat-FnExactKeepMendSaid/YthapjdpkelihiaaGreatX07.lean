/- DERIVED. Contracts: all shards, rows of shards, what bears; copies. No statement of the program is proved here. -/
import Derived.Test.YthapjdpkelihiaaGreatX06
set_option linter.unusedSimpArgs false
set_option linter.unusedVariables false
set_option linter.unusedSectionVars false
namespace Go.Proofs.YthapjdpkelihiaaGreat.Am
def iL (m:List (List Int)) (v:List Int):Bool:=((jS (cJ m) v).length:Int)==((cJ m).length:Int)
def FX:aN:=fun args h=>
 match args,h with
 |[.c (.view _ (.ivs .i64 m) n 1 _),.c (.view _ (.ints .i64 v) n2 1 _)],[]=>
  some (.c (.bool (iL m v)),[],[decide (m.length≤274877906944),eL m,decide (v.length≤274877906944),decide ((cJ m).length≤1000),iU v.length (cJ m),a7 v])
 |_,_=>none
theorem a5P:aT Tryz.prog 160 FX:=by
 intro args h res h' o hnorm he ho
 unfold FX at he
 split at he
 case h_2=>cases he
 rename_i nl m n cap nl2 v n2 cap2
 simp only[Option.some.injEq,Prod.mk.injEq]at he
 obtain⟨rfl,rfl,rfl⟩:=he
 simp only[List.mem_cons,List.not_mem_nil,or_false,forall_eq_or_imp,forall_eq,decide_eq_true_eq]at ho
 obtain⟨o1,o2,o3,o4,o5,o6⟩:=ho
 simp only[bE,AV.norm,bF,aF.norm,Con.size,List.cons.injEq,AV.c.injEq,AV.agg.injEq,aF.view.injEq,aL,true_and,and_true]at hnorm
 obtain⟨⟨rfl,rfl,rfl⟩,rfl,rfl,rfl⟩:=hnorm
 exact mo t49 (U0 m v) (by simp[o1,o2,o3,o4,o5,o6])
theorem iQ {k a:Int} (hk:bet k 1 2=true) (ha:bet a 0 7=true):(aH k a).length=4:=by
 refine J3 (q:=fun k a=>(aH k a).length=4) (fun i hi=> ?_) hk ha
 have all:c7 (fun k=>decide ((aH ((k/8:Nat)+1:Int) (k%8:Nat)).length=4)) 16=true:=by kernel_rfl
 simpa using aV all i hi
def cdL (k:Int) (v:List Int):List Int:=[aQ (aH k 0) v,aQ (aH k 1) v,aQ (aH k 2) v,aQ (aH k 3) v,aQ (aH k 4) v,aQ (aH k 5) v,aQ (aH k 6) v,aQ (aH k 7) v]
theorem l62 (k:Int) (v:List Int) (hk:bet k 1 2=true) (hv:v.length=4) (hf:a7 v=true):
  aS Tryz.prog 0 (.block 0 (.loop (a0 0 (a5 f62)))) (I62 k v 0 [] 0) fun e t=>e=.normal∧t=X62 8 (cdL k v):=by
 refine(aS.count hT t49 bK (m:=0) (id:=0) (body:=a0 0 (a5 f62)) 8 (fun i o=>o.length=i) (fun i o=>I62 k v o.length o i) (fun o=>X62 o.length o) (fun i o=>o++[aQ (aH k (i:Int)) v]) (a8 f62 0) (aA f62 0)
  (fun _ _=>[]) (fun _ _ _ _=>aI.nil) (fun i o hi h=>⟨by simp[h], ?_⟩) (fun o h=>⟨_,_,⟨_,_,YZ k v o.length o (8:Nat),rfl,by simp⟩⟩)) [] rfl
 have e:=YY k v o.length o i
 rw[aB (by omega) (by omega)]at e
 have hb:bet (i:Int) 0 7=true:=aX.2 ⟨by omega,by omega⟩
 have hl:=iQ hk hb
 rw[List.length_append]
 refine⟨_,_,⟨_,_,e, ?_,by simp⟩⟩
 simp only[hk,hb,hf,hC hk hb,bS,rpS]
 omega
theorem a2B (k:Int) (v:List Int):aD tt (a9 T49) ([(0,⟨a8 f62 0,I62 k v 0 [] 0,.normal,X62 8 (cdL k v)⟩)]) 100 f62 [.c (.int .i64 k),.c (.view none (.ints .i64 v) v.length 1 none)] [] []=
  some ⟨.c (.sl 0 0 8 1 none),[.live (.ints .i64 (cdL k v))],true,[I62 k v 0 [] 0=I62 k v 0 [] 0]⟩:=by kernel_rfl
def FN:aN:=fun args h=>
 match args,h with
 |[.c (.int .i64 k),.c (.view _ (.ints .i64 v) n 1 _)],[]=>
  some (.c (.sl 0 0 8 1 none),[.live (.ints .i64 (cdL k v))],[bet k 1 2,decide (v.length=4),a7 v])
 |_,_=>none
theorem m62:aT Tryz.prog 62 FN:=by
 intro args h res h' o hnorm he ho
 unfold FN at he
 split at he
 case h_2=>cases he
 rename_i k nl v n cap
 simp only[Option.some.injEq,Prod.mk.injEq]at he
 obtain⟨rfl,rfl,rfl⟩:=he
 simp only[List.mem_cons,List.not_mem_nil,or_false,forall_eq_or_imp,forall_eq,decide_eq_true_eq]at ho
 obtain⟨o1,o2,o3⟩:=ho
 simp only[bE,AV.norm,bF,aF.norm,Con.size,List.cons.injEq,AV.c.injEq,AV.agg.injEq,aF.view.injEq,aL,true_and,and_true]at hnorm
 obtain⟨rfl,rfl,rfl⟩:=hnorm
 exact mo (fn:=f62) t49 (a2B k v) (by simp) (hlc:=(fun cc hcc=>aI.cons (c:=cc) (by cases hcc;kernel_rfl) (by cases hcc;exact l62 k v o1 o2 o3) aI.nil))
def rwS (k:Int) (c:List Bool) (i:Nat) (o:List (List Int)):List (List Int):=bif c.getD i false then o++[aH k i]else o
def rwL (k:Int) (c:List Bool):List (List Int):=bL (rwS k c) 8 0 []
theorem a4N (k:Int) (c:List Bool) (hk:bet k 1 2=true) (hc:c.length=8):
  aS Tryz.prog 0 (.block 0 (.loop (a0 0 (a5 f135)))) (u7 k c 0 [] 0) fun e t=>e=.normal∧t=KI (rwL k c).length (rwL k c):=by
 refine(aS.count hT t49 bK (m:=0) (id:=0) (body:=a0 0 (a5 f135)) 8 (fun i o=>o.length≤i) (fun i o=>u7 k c o.length o i) (fun o=>KI o.length o) (rwS k c) (a8 f135 0) (aA f135 0)
  (fun _ _=>[]) (fun _ _ _ _=>aI.nil) (fun i o hi h=> ?_) (fun o h=>⟨_,_,⟨_,_,RR k c o.length o (8:Nat),rfl,by simp⟩⟩)) [] (by simp)
 have hb:bet (i:Int) 0 7=true:=aX.2 ⟨by omega,by omega⟩
 unfold rwS
 cases hq:c.getD i false with
 |true=>
  refine⟨by simp;omega, ?_⟩
  have e:=RP k c o.length o i
  rw[aB (by omega) (by omega),Int.toNat_natCast]at e
  rw[cond_true,List.length_append]
  refine⟨_,_,⟨_,_,e, ?_,by simp⟩⟩
  simp only[hk,hb,hq,bS,rpS]
  omega
 |false=>
  refine⟨by rw[cond_false];omega, ?_⟩
  have e:=RQ k c o.length o i
  rw[aB (by omega) (by omega),Int.toNat_natCast]at e
  rw[cond_false]
  refine⟨_,_,⟨_,_,e, ?_,by simp⟩⟩
  simp only[hq,bS,rpS]
  omega
theorem U4 (k:Int) (c:List Bool):aD tt (a9 T49) ([(0,⟨a8 f135 0,u7 k c 0 [] 0,.normal,KI (rwL k c).length (rwL k c)⟩)]) 100 f135 [.c (.int .i64 k),.c (.view none (.bools c) c.length 1 none)] [] []=
  some ⟨.c (.sl 0 0 (rwL k c).length 1 none),[.live (.ivs .i64 (rwL k c))],true,[u7 k c 0 [] 0=u7 k c 0 [] 0]⟩:=by kernel_rfl
def PB:aN:=fun args h=>
 match args,h with
 |[.c (.int .i64 k),.c (.view _ (.bools c) n 1 _)],[]=>
  some (.c (.view none (.ivs .i64 (rwL k c)) (rwL k c).length 1 none),[],[bet k 1 2,decide (c.length=8)])
 |_,_=>none
theorem a5S:aT Tryz.prog 157 PB:=by
 intro args h res h' o hnorm he ho
 unfold PB at he
 split at he
 case h_2=>cases he
 rename_i k nl c n cap
 simp only[Option.some.injEq,Prod.mk.injEq]at he
 obtain⟨rfl,rfl,rfl⟩:=he
 simp only[List.mem_cons,List.not_mem_nil,or_false,forall_eq_or_imp,forall_eq,decide_eq_true_eq]at ho
 obtain⟨o1,o2⟩:=ho
 simp only[bE,AV.norm,bF,aF.norm,Con.size,List.cons.injEq,AV.c.injEq,AV.agg.injEq,aF.view.injEq,aL,true_and,and_true]at hnorm
 obtain⟨rfl,rfl,rfl⟩:=hnorm
 exact(mo (f:=157) (fn:=f135) t49 (U4 k c) (by simp) (hlc:=(fun cc hcc=>aI.cons (c:=cc) (by cases hcc;kernel_rfl) (by cases hcc;exact a4N k c o1 o2) aI.nil))).views
  (o:=[decide ((rwL k c).length=(rwL k c).length)]) rfl (by simp)
theorem TF (k:Int) (a b:List Int) (c:List Bool):aD tt (a9 T49) ([]) 100 Tryz.f113 [.agg [.int .i64 k,.view none (.ints .i64 a) a.length 1 none,.view none (.ints .i64 b) b.length 1 none,.view none (.bools c) c.length 1 none]] [] []=
  some ⟨.agg [.int .i64 k,.sl 0 0 (0+a.length) 1 none,.sl 1 0 (0+b.length) 1 none,.sl 2 0 (0+c.length) 1 none],[.live (.ints .i64 ([]++a)),.live (.ints .i64 ([]++b)),.live (.bools ([]++c))],(decide (0+a.length≤274877906944)&&(decide (0+b.length≤274877906944)&&((decide (0+c.length≤274877906944))&&true))),[]⟩:=by kernel_rfl
def AP:aN:=fun args h=>
 match args,h with
 |[.agg [.int .i64 k,.view _ (.ints .i64 a) n1 1 _,.view _ (.ints .i64 b) n2 1 _,.view _ (.bools c) n3 1 _]],[]=>
  some (.agg [.int .i64 k,.sl 0 0 a.length 1 none,.sl 1 0 b.length 1 none,.sl 2 0 c.length 1 none],[.live (.ints .i64 a),.live (.ints .i64 b),.live (.bools c)],[decide (a.length≤274877906944),decide (b.length≤274877906944),decide (c.length≤274877906944)])
 |_,_=>none
theorem a54:aT Tryz.prog 113 AP:=by
 intro args h res h' o hnorm he ho
 unfold AP at he
 split at he
 case h_2=>cases he
 rename_i k nl1 a n1 cap1 nl2 b n2 cap2 nl3 c n3 cap3
 simp only[Option.some.injEq,Prod.mk.injEq]at he
 obtain⟨rfl,rfl,rfl⟩:=he
 simp only[List.mem_cons,List.not_mem_nil,or_false,forall_eq_or_imp,forall_eq,decide_eq_true_eq]at ho
 obtain⟨o1,o2,o3⟩:=ho
 simp only[bE,AV.norm,bF,aF.norm,Con.size,List.cons.injEq,AV.c.injEq,AV.agg.injEq,aF.view.injEq,aL,true_and,and_true]at hnorm
 obtain⟨⟨rfl,rfl,rfl⟩,⟨rfl,rfl,rfl⟩,rfl,rfl,rfl⟩:=hnorm
 have e:=TF k a b c
 simp only[Nat.zero_add]at e
 exact mo t49 e (by simp[o1,o2,o3])
noncomputable def T50:List bD:=[⟨160,[],nm FX⟩,⟨62,[],nm FN⟩,⟨157,[],nm PB⟩,⟨113,[],nm AP⟩]++T49
theorem e50:a6 Tryz.prog T50:=by
 refine a6.append ?_ e49
 intro e he
 simp only[List.mem_cons,List.not_mem_nil,or_false]at he
 rcases he with rfl|rfl|rfl|rfl
 ·exact a5P.ok
 ·exact m62.ok
 ·exact a5S.ok
 ·exact a54.ok
theorem t50:bJ Tryz.prog (a9 T50):=aM e50
theorem TJ (k:Int) (c:List Bool):aD tt (a9 T50) ([]) 100 Tryz.f114 [.c (.int .i64 k),.c (.view none (.bools c) c.length 1 none)] [] [(0,true),(0,true)]=
  some ⟨.c (.bool (bif bif bet k 1 2 then(↑c.length:Int)==8 else false then(↑(cJ (rwL k c)).length:Int)==4 else false)),[],(rp3 (bet k 1 2) (rp3 (bif bet k 1 2 then(↑c.length:Int)==8 else false) (bet k 1 2&&(decide (c.length=8)&&((bif bet k 1 2 then(↑c.length:Int)==8 else false)&&(decide ((rwL k c).length≤274877906944)&&(eL (rwL k c)&&(rp2 (bif bet k 1 2 then(↑c.length:Int)==8 else false) true)))))))),[]⟩:=by kernel_rfl
theorem TK (k:Int) (c:List Bool):aD tt (a9 T50) ([]) 100 Tryz.f114 [.c (.int .i64 k),.c (.view none (.bools c) c.length 1 none)] [] [(0,true),(0,false)]=
  some ⟨.c (.bool false),[],(rp3 (bet k 1 2) (rp7 (!bif bet k 1 2 then(↑c.length:Int)==8 else false) true)),[]⟩:=by kernel_rfl
theorem TL (k:Int) (c:List Bool):aD tt (a9 T50) ([]) 100 Tryz.f114 [.c (.int .i64 k),.c (.view none (.bools c) c.length 1 none)] [] [(0,false)]=
  some ⟨.c (.bool false),[],(rp3 (!bet k 1 2) ((!bet k 1 2)&&true)),[]⟩:=by kernel_rfl
theorem HW:aP Tryz.prog 54 (fJ tt (a9 T50) Tryz.f54 []):=dZ hT t50 bK [] (by kernel_rfl) (by kernel_rfl)
end Go.Proofs.YthapjdpkelihiaaGreat.Am
