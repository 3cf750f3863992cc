/- DERIVED. Contracts: all shards, rows of shards, what bears; copies. No statement of the program is proved here. -/
import Derived.Test.YtdnfojanjejdgaaGreatX06
set_option linter.unusedSimpArgs false
set_option linter.unusedVariables false
set_option linter.unusedSectionVars false
namespace Go.Proofs.YtdnfojanjejdgaaGreat.Am
def iJ (m:List (List Int)) (v:List Int):Bool:=((jQ (cJ m) v).length:Int)==((cJ m).length:Int)
def GR:aM:=fun args h=>
 match args,h with
 |[.c (.view _ (.ivs .i64 m) n 1 _),.c (.view _ (.ints .i64 v) n2 1 _)],[]=>
  some (.c (.bool (iJ m v)),[],[decide (m.length≤274877906944),eJ m,decide (v.length≤274877906944),decide ((cJ m).length≤1000),iQ v.length (cJ m),aA v])
 |_,_=>none
theorem a7B:aS Tryz.prog 203 GR:=by
 intro args h res h' o hnorm he ho
 unfold GR at he
 split at he
 case h_2=>cases he
 rename_i nl m n cap nl2 v n2 cap2
 simp only[Option.some.injEq,Prod.mk.injEq]at he
 obtain⟨rfl,rfl,rfl⟩:=he
 simp only[List.mem_cons,List.not_mem_nil,or_false,forall_eq_or_imp,forall_eq,decide_eq_true_eq]at ho
 obtain⟨o1,o2,o3,o4,o5,o6⟩:=ho
 simp only[b8,AV.norm,bA,aF.norm,Con.size,List.cons.injEq,AV.c.injEq,AV.agg.injEq,aF.view.injEq,aL,true_and,and_true]at hnorm
 obtain⟨⟨rfl,rfl,rfl⟩,rfl,rfl,rfl⟩:=hnorm
 exact mo t49 (UX m v) (by simp[o1,o2,o3,o4,o5,o6])
theorem kH {k a:Int} (hk:bet k 1 2=true) (ha:bet a 0 7=true):(aH k a).length=4:=by
 refine JX (q:=fun k a=>(aH k a).length=4) (fun i hi=> ?_) hk ha
 have all:cN (fun k=>decide ((aH ((k/8:Nat)+1:Int) (k%8:Nat)).length=4)) 16=true:=by kernel_rfl
 simpa using aX all i hi
def cdL (k:Int) (v:List Int):List Int:=[aP (aH k 0) v,aP (aH k 1) v,aP (aH k 2) v,aP (aH k 3) v,aP (aH k 4) v,aP (aH k 5) v,aP (aH k 6) v,aP (aH k 7) v]
theorem l62 (k:Int) (v:List Int) (hk:bet k 1 2=true) (hv:v.length=4) (hf:aA v=true):
  aN none Tryz.prog 0 (.block 0 (.loop (a5 0 (a0 f62)))) (I62 k v 0 [] 0) fun e t=>e=.normal∧t=X62 8 (cdL k v):=by
 refine(aN.count (ro:=none) hT t49 bF (m:=0) (id:=0) (body:=a5 0 (a0 f62)) 8 (fun i o=>o.length=i) (fun i o=>I62 k v o.length o i) (fun o=>X62 o.length o) (fun i o=>o++[aP (aH k (i:Int)) v]) (a6 f62 0) (a8 f62 0)
  (fun _ _=>[]) (fun _ _ _ _=>aK.nil) (fun i o hi h=>⟨by simp[h], ?_⟩) (fun o h=>⟨_,_,⟨_,_,ZV k v o.length o (8:Nat),rfl,by simp⟩⟩)) [] rfl
 have e:=ZU k v o.length o i
 rw[aB (by omega) (by omega)]at e
 have hb:bet (i:Int) 0 7=true:=bN.2 ⟨by omega,by omega⟩
 have hl:=kH hk hb
 rw[List.length_append]
 refine⟨_,_,⟨_,_,e, ?_,by simp⟩⟩
 simp only[hk,hb,hf,kG hk hb,bS,rpS]
 omega
theorem a3E (k:Int) (v:List Int):aE tt (a9 T49) ([(0,⟨a6 f62 0,I62 k v 0 [] 0,.normal,X62 8 (cdL k v)⟩)]) 100 f62 [.c (.int .i64 k),.c (.view none (.ints .i64 v) v.length 1 none)] [] []=
  some ⟨.c (.sl 0 0 8 1 none),[.live (.ints .i64 (cdL k v))],true,[I62 k v 0 [] 0=I62 k v 0 [] 0]⟩:=by kernel_rfl
def GJ:aM:=fun args h=>
 match args,h with
 |[.c (.int .i64 k),.c (.view _ (.ints .i64 v) n 1 _)],[]=>
  some (.c (.sl 0 0 8 1 none),[.live (.ints .i64 (cdL k v))],[bet k 1 2,decide (v.length=4),aA v])
 |_,_=>none
theorem m62:aS Tryz.prog 114 GJ:=by
 intro args h res h' o hnorm he ho
 unfold GJ at he
 split at he
 case h_2=>cases he
 rename_i k nl v n cap
 simp only[Option.some.injEq,Prod.mk.injEq]at he
 obtain⟨rfl,rfl,rfl⟩:=he
 simp only[List.mem_cons,List.not_mem_nil,or_false,forall_eq_or_imp,forall_eq,decide_eq_true_eq]at ho
 obtain⟨o1,o2,o3⟩:=ho
 simp only[b8,AV.norm,bA,aF.norm,Con.size,List.cons.injEq,AV.c.injEq,AV.agg.injEq,aF.view.injEq,aL,true_and,and_true]at hnorm
 obtain⟨rfl,rfl,rfl⟩:=hnorm
 exact mo (fn:=f62) t49 (a3E k v) (by simp) (hlc:=(fun cc hcc=>aK.cons (c:=cc) (by cases hcc;kernel_rfl) (by cases hcc;exact l62 k v o1 o2 o3) aK.nil))
def rwS (k:Int) (c:List Bool) (i:Nat) (o:List (List Int)):List (List Int):=bif c.getD i false then o++[aH k i]else o
def rwL (k:Int) (c:List Bool):List (List Int):=bH (rwS k c) 8 0 []
theorem a5Y (k:Int) (c:List Bool) (hk:bet k 1 2=true) (hc:c.length=8):
  aN none Tryz.prog 0 (.block 0 (.loop (a5 0 (a0 f135)))) (uQ k c 0 [] 0) fun e t=>e=.normal∧t=LH (rwL k c).length (rwL k c):=by
 refine(aN.count (ro:=none) hT t49 bF (m:=0) (id:=0) (body:=a5 0 (a0 f135)) 8 (fun i o=>o.length≤i) (fun i o=>uQ k c o.length o i) (fun o=>LH o.length o) (rwS k c) (a6 f135 0) (a8 f135 0)
  (fun _ _=>[]) (fun _ _ _ _=>aK.nil) (fun i o hi h=> ?_) (fun o h=>⟨_,_,⟨_,_,SG k c o.length o (8:Nat),rfl,by simp⟩⟩)) [] (by simp)
 have hb:bet (i:Int) 0 7=true:=bN.2 ⟨by omega,by omega⟩
 unfold rwS
 cases hq:c.getD i false with
 |true=>
  refine⟨by simp;omega, ?_⟩
  have e:=SE k c o.length o i
  rw[aB (by omega) (by omega),Int.toNat_natCast]at e
  rw[cond_true,List.length_append]
  refine⟨_,_,⟨_,_,e, ?_,by simp⟩⟩
  simp only[hk,hb,hq,bS,rpS]
  omega
 |false=>
  refine⟨by rw[cond_false];omega, ?_⟩
  have e:=SF k c o.length o i
  rw[aB (by omega) (by omega),Int.toNat_natCast]at e
  rw[cond_false]
  refine⟨_,_,⟨_,_,e, ?_,by simp⟩⟩
  simp only[hq,bS,rpS]
  omega
theorem V1 (k:Int) (c:List Bool):aE tt (a9 T49) ([(0,⟨a6 f135 0,uQ k c 0 [] 0,.normal,LH (rwL k c).length (rwL k c)⟩)]) 100 f135 [.c (.int .i64 k),.c (.view none (.bools c) c.length 1 none)] [] []=
  some ⟨.c (.sl 0 0 (rwL k c).length 1 none),[.live (.ivs .i64 (rwL k c))],true,[uQ k c 0 [] 0=uQ k c 0 [] 0]⟩:=by kernel_rfl
def PX:aM:=fun args h=>
 match args,h with
 |[.c (.int .i64 k),.c (.view _ (.bools c) n 1 _)],[]=>
  some (.c (.view none (.ivs .i64 (rwL k c)) (rwL k c).length 1 none),[],[bet k 1 2,decide (c.length=8)])
 |_,_=>none
theorem a7E:aS Tryz.prog 206 PX:=by
 intro args h res h' o hnorm he ho
 unfold PX at he
 split at he
 case h_2=>cases he
 rename_i k nl c n cap
 simp only[Option.some.injEq,Prod.mk.injEq]at he
 obtain⟨rfl,rfl,rfl⟩:=he
 simp only[List.mem_cons,List.not_mem_nil,or_false,forall_eq_or_imp,forall_eq,decide_eq_true_eq]at ho
 obtain⟨o1,o2⟩:=ho
 simp only[b8,AV.norm,bA,aF.norm,Con.size,List.cons.injEq,AV.c.injEq,AV.agg.injEq,aF.view.injEq,aL,true_and,and_true]at hnorm
 obtain⟨rfl,rfl,rfl⟩:=hnorm
 exact(mo (f:=206) (fn:=f135) t49 (V1 k c) (by simp) (hlc:=(fun cc hcc=>aK.cons (c:=cc) (by cases hcc;kernel_rfl) (by cases hcc;exact a5Y k c o1 o2) aK.nil))).views
  (o:=[decide ((rwL k c).length=(rwL k c).length)]) rfl (by simp)
theorem UD (k:Int) (a b:List Int) (c:List Bool):aE tt (a9 T49) ([]) 100 Tryz.f156 [.agg [.int .i64 k,.view none (.ints .i64 a) a.length 1 none,.view none (.ints .i64 b) b.length 1 none,.view none (.bools c) c.length 1 none]] [] []=
  some ⟨.agg [.int .i64 k,.sl 0 0 (0+a.length) 1 none,.sl 1 0 (0+b.length) 1 none,.sl 2 0 (0+c.length) 1 none],[.live (.ints .i64 ([]++a)),.live (.ints .i64 ([]++b)),.live (.bools ([]++c))],(decide (0+a.length≤274877906944)&&(decide (0+b.length≤274877906944)&&((decide (0+c.length≤274877906944))&&true))),[]⟩:=by kernel_rfl
def BI:aM:=fun args h=>
 match args,h with
 |[.agg [.int .i64 k,.view _ (.ints .i64 a) n1 1 _,.view _ (.ints .i64 b) n2 1 _,.view _ (.bools c) n3 1 _]],[]=>
  some (.agg [.int .i64 k,.sl 0 0 a.length 1 none,.sl 1 0 b.length 1 none,.sl 2 0 c.length 1 none],[.live (.ints .i64 a),.live (.ints .i64 b),.live (.bools c)],[decide (a.length≤274877906944),decide (b.length≤274877906944),decide (c.length≤274877906944)])
 |_,_=>none
theorem a6P:aS Tryz.prog 156 BI:=by
 intro args h res h' o hnorm he ho
 unfold BI at he
 split at he
 case h_2=>cases he
 rename_i k nl1 a n1 cap1 nl2 b n2 cap2 nl3 c n3 cap3
 simp only[Option.some.injEq,Prod.mk.injEq]at he
 obtain⟨rfl,rfl,rfl⟩:=he
 simp only[List.mem_cons,List.not_mem_nil,or_false,forall_eq_or_imp,forall_eq,decide_eq_true_eq]at ho
 obtain⟨o1,o2,o3⟩:=ho
 simp only[b8,AV.norm,bA,aF.norm,Con.size,List.cons.injEq,AV.c.injEq,AV.agg.injEq,aF.view.injEq,aL,true_and,and_true]at hnorm
 obtain⟨⟨rfl,rfl,rfl⟩,⟨rfl,rfl,rfl⟩,rfl,rfl,rfl⟩:=hnorm
 have e:=UD k a b c
 simp only[Nat.zero_add]at e
 exact mo t49 e (by simp[o1,o2,o3])
noncomputable def T50:List aZ:=[⟨203,[],nm GR⟩,⟨114,[],nm GJ⟩,⟨206,[],nm PX⟩,⟨156,[],nm BI⟩]++T49
theorem e50:a7 Tryz.prog T50:=by
 refine a7.append ?_ e49
 intro e he
 simp only[List.mem_cons,List.not_mem_nil,or_false]at he
 rcases he with rfl|rfl|rfl|rfl
 ·exact a7B.ok
 ·exact m62.ok
 ·exact a7E.ok
 ·exact a6P.ok
theorem t50:bK Tryz.prog (a9 T50):=aO e50
theorem UG (k:Int) (c:List Bool):aE tt (a9 T50) ([]) 100 Tryz.f160 [.c (.int .i64 k),.c (.view none (.bools c) c.length 1 none)] [] [(0,true),(0,true)]=
  some ⟨.c (.bool (bif bif bet k 1 2 then(↑c.length:Int)==8 else false then(↑(cJ (rwL k c)).length:Int)==4 else false)),[],(rp3 (bet k 1 2) (rp3 (bif bet k 1 2 then(↑c.length:Int)==8 else false) (bet k 1 2&&(decide (c.length=8)&&((bif bet k 1 2 then(↑c.length:Int)==8 else false)&&(decide ((rwL k c).length≤274877906944)&&(eJ (rwL k c)&&(rp2 (bif bet k 1 2 then(↑c.length:Int)==8 else false) true)))))))),[]⟩:=by kernel_rfl
theorem UH (k:Int) (c:List Bool):aE tt (a9 T50) ([]) 100 Tryz.f160 [.c (.int .i64 k),.c (.view none (.bools c) c.length 1 none)] [] [(0,true),(0,false)]=
  some ⟨.c (.bool false),[],(rp3 (bet k 1 2) (rp7 (!bif bet k 1 2 then(↑c.length:Int)==8 else false) true)),[]⟩:=by kernel_rfl
theorem UI (k:Int) (c:List Bool):aE tt (a9 T50) ([]) 100 Tryz.f160 [.c (.int .i64 k),.c (.view none (.bools c) c.length 1 none)] [] [(0,false)]=
  some ⟨.c (.bool false),[],(rp3 (!bet k 1 2) ((!bet k 1 2)&&true)),[]⟩:=by kernel_rfl
theorem JS:aQ Tryz.prog 157 (dV tt (a9 T50) Tryz.f157 []):=cG hT t50 bF [] (by kernel_rfl) (by kernel_rfl)
end Go.Proofs.YtdnfojanjejdgaaGreat.Am
