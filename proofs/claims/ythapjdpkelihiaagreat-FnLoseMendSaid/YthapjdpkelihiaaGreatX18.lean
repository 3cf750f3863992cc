/- DERIVED. Part 18 of the proof: C67, Am34, C68, C69, C70, C71, C72, C73, C74, L1, Am35, Am39, Am40, C93, C94, C95. No statement of the program is proved here. -/
import Derived.Test.YthapjdpkelihiaaGreatX17
import Derived.Test.YthapjdpkelihiaaGreatRows
import Derived.WalkKit
import Derived.ProofKit
import Derived.OpenShut
import Derived.ShutString
import Derived.ChangeOld
import Derived.Below
set_option linter.unusedSimpArgs false
set_option linter.unusedVariables false
set_option linter.unusedSectionVars false
namespace Go.Proofs.YthapjdpkelihiaaGreat.Am
section
def BC:aQ:=fun args h=>
 match args,h with
 |[.c (.int .i64 k),.c (.view _ (.ints .i64 v) n 1 _)],[]=>
  some (.tup [.agg (snK k v 1).cells,.c (.bool (snB k v 1))],[.live (.ints .i64 (snK k v 1).a),.live (.ints .i64 (snK k v 1).b),.live (.bools (snK k v 1).c),.live (.ints .i64 (snK k v 1).d)],[decide (v.length≤274877906944)])
 |_,_=>none
theorem m95:aV Tryz.prog 106 BC:=by
 intro args h res h' o hnorm he ho
 unfold BC at he
 split at he
 case h_2=>cases he
 rename_i k nl v n cap
 simp only[Option.some.injEq,Prod.mk.injEq]at he
 obtain⟨rfl,rfl,rfl⟩:=he
 simp only[List.mem_cons,List.not_mem_nil,or_false,forall_eq_or_imp,forall_eq,decide_eq_true_eq]at ho
 have o1:=ho
 simp only[bG,AV.norm,bI,aJ.norm,Con.size,List.cons.injEq,AV.c.injEq,AV.agg.injEq,aJ.view.injEq,aN,true_and,and_true]at hnorm
 obtain⟨rfl,rfl,rfl⟩:=hnorm
 have sp: ∀b,snB k v 1=b→snK k v 1=bif b then⟨k,fJ k v,dR 1,dR true,false,0,[],0⟩else PK0:=fun b h=>by unfold snK;rw[h]
 cases h:snB k v 1 with
 |false=>
  rw[sp _ h]
  exact gR (a5 t70 (by kernel_rfl) (by kernel_rfl) (a3N k v) (by simp only[h,o1,bS]) (by simp) (fun cc _=>aF.nil))
 |true=>
  have e:=a3O k v
  rw[sp _ h]at e⊢
  exact a5 t70 (by kernel_rfl) (by kernel_rfl) e (by simp only[h,o1,bS]) (by simp) (fun cc _=>aF.nil)
theorem VU (k:Int) (a b:List Int) (c:List Bool) (on:Bool) (kd:Int) (d:List Int) (vs:Int) (x:Int):aG tt (aB T61) ([]) 100 Tryz.f105 [.agg [.int .i64 k,.view none (.ints .i64 a) a.length 1 none,.view none (.ints .i64 b) b.length 1 none,.view none (.bools c) c.length 1 none,.bool on,.int .i64 kd,.view none (.ints .i64 d) d.length 1 none,.int .i64 vs],.c (.int .i64 x)] [] []=
  some ⟨.agg [.int .i64 k,.sl 0 0 a.length 1 none,.sl 1 0 b.length 1 none,.sl 2 0 c.length 1 none,.bool on,.int .i64 kd,.sl 3 0 d.length 1 none,.int .i64 vs],[.live (.ints .i64 (a.set x.toNat ((cdL kd d).getD x.toNat 0))),.live (.ints .i64 (b.set x.toNat vs)),.live (.bools (c.set x.toNat true)),.live (.ints .i64 d)],(decide (a.length≤274877906944)&&(decide (b.length≤274877906944)&&(decide (c.length≤274877906944)&&(decide (d.length≤274877906944)&&(bet kd 1 2&&(decide (d.length=4)&&(a9 d&&(decide (0≤x)&&(decide (x<8)&&(decide (x.toNat<(cdL kd d).length)&&(decide (0≤x)&&(decide (x<(↑a.length:Int))&&(decide (x.toNat<a.length)&&(decide (0≤x)&&(decide (x<(↑b.length:Int))&&(decide (x.toNat<b.length)&&(decide (0≤x)&&(decide (x<(↑c.length:Int))&&((decide (x.toNat<c.length))&&true))))))))))))))))))),[]⟩:=by kernel_rfl
def DE:aQ:=fun args h=>
 match args,h with
 |[.agg [.int .i64 k,.view _ (.ints .i64 a) n1 1 _,.view _ (.ints .i64 b) n2 1 _,.view _ (.bools c) n3 1 _,.bool on,.int .i64 kd,.view _ (.ints .i64 d) n4 1 _,.int .i64 vs],.c (.int .i64 x)],[]=>
  some (.agg (shR ⟨k,a,b,c,on,kd,d,vs⟩ x).cells,[.live (.ints .i64 (shR ⟨k,a,b,c,on,kd,d,vs⟩ x).a),.live (.ints .i64 (shR ⟨k,a,b,c,on,kd,d,vs⟩ x).b),.live (.bools (shR ⟨k,a,b,c,on,kd,d,vs⟩ x).c),.live (.ints .i64 (shR ⟨k,a,b,c,on,kd,d,vs⟩ x).d)],[decide (a.length=8),decide (b.length=8),decide (c.length=8),bet kd 1 2,aC d 4,bet x 0 7])
 |_,_=>none
theorem m52:aV Tryz.prog 105 DE:=by
 intro args h res h' o hnorm he ho
 unfold DE at he
 split at he
 case h_2=>cases he
 rename_i k nl1 a n1 cap1 nl2 b n2 cap2 nl3 c n3 cap3 on kd nl4 d n4 cap4 vs x
 simp only[Option.some.injEq,Prod.mk.injEq]at he
 obtain⟨rfl,rfl,rfl⟩:=he
 simp only[List.mem_cons,List.not_mem_nil,or_false,forall_eq_or_imp,forall_eq,decide_eq_true_eq]at ho
 obtain⟨o1,o2,o3,o4,o5,o6⟩:=ho
 simp only[bG,AV.norm,bI,aJ.norm,Con.size,List.cons.injEq,AV.c.injEq,AV.agg.injEq,aJ.view.injEq,aN,true_and,and_true]at hnorm
 obtain⟨⟨rfl,rfl,rfl⟩,⟨rfl,rfl,rfl⟩,⟨rfl,rfl,rfl⟩,rfl,rfl,rfl⟩:=hnorm
 have hx':=b8.1 o6
 obtain⟨hf,hd4⟩:=gW o5
 have hcd:(cdL kd d).length=8:=rfl
 have mm:=a5 (f:=105) t61 (by kernel_rfl) (by kernel_rfl) (VU k a b c on kd d vs x) (by simp only[o1,o2,o3,o4,hf,hd4,hcd,bS];omega) (by simp) (fun cc _=>aF.nil)
 rw[sM o4,←i6 o5]at mm
 have e1:(a.set x.toNat ((hZ kd d).getD x.toNat 0)).length=a.length:=List.length_set
 have e2:(b.set x.toNat vs).length=b.length:=List.length_set
 have e3:(c.set x.toNat true).length=c.length:=List.length_set
 show bE _ _ _ _ (.agg [.int .i64 k,.sl 0 0 (a.set x.toNat ((hZ kd d).getD x.toNat 0)).length 1 none,.sl 1 0 (b.set x.toNat vs).length 1 none,.sl 2 0 (c.set x.toNat true).length 1 none,.bool on,.int .i64 kd,.sl 3 0 d.length 1 none,.int .i64 vs]) _
 rw[e1,e2,e3]
 exact mm
noncomputable def T71:List bF:=[⟨106,[],nm BC⟩,⟨105,[],nm DE⟩]++T70
theorem e71:a8 Tryz.prog T71:=by
 refine a8.append ?_ e70
 intro e he
 simp only[List.mem_cons,List.not_mem_nil,or_false]at he
 rcases he with rfl|rfl
 ·exact m95.ok
 ·exact m52.ok
theorem t71:bN Tryz.prog (aB T71):=aP e71
noncomputable abbrev f46:=Tryz.f46
noncomputable def I46 (b:List Int) (n:Nat) (p:Int) (x:PK) (m:Int):St:=
 bA f46.ntmps [(0,.c (.ptr 0 0 0 0)),(2,.c (.ptr 1 0 0 0)),(3,.c (.ptr 2 0 0 0)),(5,.c (.int .i64 m))] [.live (.cells [.view none (.ints .u8 b) n 1 none,.int .i64 p]),.live (.cells [.int .i64 0,.nils,.nils,.nils,.bool false,.int .i64 0,.nils,.int .i64 0]),.live (.cells [.int .i64 x.k,.sl 3 0 x.a.length 1 none,.sl 4 0 x.b.length 1 none,.sl 5 0 x.c.length 1 none,.bool x.on,.int .i64 x.kd,.sl 6 0 x.d.length 1 none,.int .i64 x.vs]),.live (.ints .i64 x.a),.live (.ints .i64 x.b),.live (.bools x.c),.live (.ints .i64 x.d)]
noncomputable def X46 (b:List Int) (n:Nat) (p:Int) (x:PK):St:=
 bA f46.ntmps [(0,.c (.ptr 0 0 0 0)),(2,.c (.ptr 1 0 0 0)),(3,.c (.ptr 2 0 0 0))] [.live (.cells [.view none (.ints .u8 b) n 1 none,.int .i64 p]),.live (.cells [.int .i64 0,.nils,.nils,.nils,.bool false,.int .i64 0,.nils,.int .i64 0]),.live (.cells [.int .i64 x.k,.sl 3 0 x.a.length 1 none,.sl 4 0 x.b.length 1 none,.sl 5 0 x.c.length 1 none,.bool x.on,.int .i64 x.kd,.sl 6 0 x.d.length 1 none,.int .i64 x.vs]),.live (.ints .i64 x.a),.live (.ints .i64 x.b),.live (.bools x.c),.live (.ints .i64 x.d)]
theorem YT (b:List Int) (n:Nat) (p:Int) (x:PK) (m:Int):aH 1 (aA f46 0) (aD f46 0) (aK tt (aB T71) ([]) 1 100 (a6 0 (a7 f46)) (I46 b n p x m) [(0,true),(0,true),(0,true),(0,true)])=
  some (.normal,(decide (m>0)&&(decide (n=b.length)&&(aZ b&&(decide (0≤p)&&(decide (p≤1000000)&&((pk b p 7==0)&&((pk b p 7==0)&&(decide (n=b.length)&&(aZ b&&(decide (0≤p+1)&&(decide (p+1≤1000000)&&(decide (n=b.length)&&(aZ b&&(decide (0≤p+1+1)&&(decide (p+1+1≤900000)&&(decide (x.2.length=x.2.length)&&(decide (x.3.length=x.3.length)&&(decide (x.4.length=x.4.length)&&(decide (x.7.length=x.7.length)&&(decide (x.2.length≤274877906944)&&(decide (x.7.length≤274877906944)&&((gV x (IntKind.i64.wrap (1+pk b (p+1) 2)) (d4L b (p+1+1)))&&true)))))))))))))))))))))),[],I46 b n (p+1+1+4) (cS x (IntKind.i64.wrap (1+pk b (p+1) 2)) (d4L b (p+1+1))) (IntKind.i64.wrap (m-1))):=by kernel_rfl
theorem YU (b:List Int) (n:Nat) (p:Int) (x:PK) (m:Int):aH 1 (aA f46 0) (aD f46 0) (aK tt (aB T71) ([]) 1 100 (a6 0 (a7 f46)) (I46 b n p x m) [(0,true),(0,true),(0,true),(0,false)])=
  some (.normal,(decide (m>0)&&(decide (n=b.length)&&(aZ b&&(decide (0≤p)&&(decide (p≤1000000)&&((pk b p 7==0)&&((pk b p 7==0)&&(decide (n=b.length)&&(aZ b&&(decide (0≤p+1)&&(decide (p+1≤1000000)&&(decide (n=b.length)&&(aZ b&&(decide (0≤p+1+1)&&(decide (p+1+1≤900000)&&(decide (x.2.length=x.2.length)&&(decide (x.3.length=x.3.length)&&(decide (x.4.length=x.4.length)&&(decide (x.7.length=x.7.length)&&(decide (x.2.length≤274877906944)&&(decide (x.7.length≤274877906944)&&((!gV x (IntKind.i64.wrap (1+pk b (p+1) 2)) (d4L b (p+1+1)))&&true)))))))))))))))))))))),[],I46 b n (p+1+1+4) x (IntKind.i64.wrap (m-1))):=by kernel_rfl
theorem YV (b:List Int) (n:Nat) (p:Int) (x:PK) (m:Int):aH 1 (aA f46 0) (aD f46 0) (aK tt (aB T71) ([]) 1 100 (a6 0 (a7 f46)) (I46 b n p x m) [(0,true),(0,false),(0,true),(0,true)])=
  some (.normal,(decide (m>0)&&(decide (n=b.length)&&(aZ b&&(decide (0≤p)&&(decide (p≤1000000)&&((!pk b p 7==0)&&((pk b p 7==1)&&(decide (n=b.length)&&(aZ b&&(decide (0≤p+1)&&(decide (p+1≤1000000)&&(decide (n=b.length)&&(aZ b&&(decide (0≤p+1+1)&&(decide (p+1+1≤900000)&&(decide (x.2.length=x.2.length)&&(decide (x.3.length=x.3.length)&&(decide (x.4.length=x.4.length)&&(decide (x.7.length=x.7.length)&&(decide (x.2.length≤274877906944)&&(decide (x.7.length≤274877906944)&&((gV x (IntKind.i64.wrap (1+pk b (p+1) 2)) (d4L b (p+1+1)))&&true)))))))))))))))))))))),[],I46 b n (p+1+1+4) (cS x (IntKind.i64.wrap (1+pk b (p+1) 2)) (d4L b (p+1+1))) (IntKind.i64.wrap (m-1))):=by kernel_rfl
theorem YW (b:List Int) (n:Nat) (p:Int) (x:PK) (m:Int):aH 1 (aA f46 0) (aD f46 0) (aK tt (aB T71) ([]) 1 100 (a6 0 (a7 f46)) (I46 b n p x m) [(0,true),(0,false),(0,true),(0,false)])=
  some (.normal,(decide (m>0)&&(decide (n=b.length)&&(aZ b&&(decide (0≤p)&&(decide (p≤1000000)&&((!pk b p 7==0)&&((pk b p 7==1)&&(decide (n=b.length)&&(aZ b&&(decide (0≤p+1)&&(decide (p+1≤1000000)&&(decide (n=b.length)&&(aZ b&&(decide (0≤p+1+1)&&(decide (p+1+1≤900000)&&(decide (x.2.length=x.2.length)&&(decide (x.3.length=x.3.length)&&(decide (x.4.length=x.4.length)&&(decide (x.7.length=x.7.length)&&(decide (x.2.length≤274877906944)&&(decide (x.7.length≤274877906944)&&((!gV x (IntKind.i64.wrap (1+pk b (p+1) 2)) (d4L b (p+1+1)))&&true)))))))))))))))))))))),[],I46 b n (p+1+1+4) x (IntKind.i64.wrap (m-1))):=by kernel_rfl
theorem YX (b:List Int) (n:Nat) (p:Int) (x:PK) (m:Int):aH 1 (aA f46 0) (aD f46 0) (aK tt (aB T71) ([]) 1 100 (a6 0 (a7 f46)) (I46 b n p x m) [(0,true),(0,false),(0,false),(0,true),(0,true),(0,true)])=
  some (.normal,(decide (m>0)&&(decide (n=b.length)&&(aZ b&&(decide (0≤p)&&(decide (p≤1000000)&&((!pk b p 7==0)&&((!pk b p 7==1)&&((pk b p 7==2)&&((pk b p 7==2)&&((x.5)&&(decide (n=b.length)&&(aZ b&&(decide (0≤p+1)&&(decide (p+1≤1000000)&&(decide (x.2.length=x.2.length)&&(decide (x.3.length=x.3.length)&&(decide (x.4.length=x.4.length)&&(decide (x.7.length=x.7.length)&&(decide (x.2.length=8)&&(decide (x.3.length=8)&&(decide (x.4.length=8)&&(bet x.6 1 2&&(aC x.7 4&&((bet (pk b (p+1) 8) 0 7)&&true)))))))))))))))))))))))),[],I46 b n (p+1+1) (shR x (pk b (p+1) 8)) (IntKind.i64.wrap (m-1))):=by kernel_rfl
theorem YY (b:List Int) (n:Nat) (p:Int) (x:PK) (m:Int):aH 1 (aA f46 0) (aD f46 0) (aK tt (aB T71) ([]) 1 100 (a6 0 (a7 f46)) (I46 b n p x m) [(0,true),(0,false),(0,false),(0,true),(0,true),(0,false)])=
  some (.normal,(decide (m>0)&&(decide (n=b.length)&&(aZ b&&(decide (0≤p)&&(decide (p≤1000000)&&((!pk b p 7==0)&&((!pk b p 7==1)&&((pk b p 7==2)&&((pk b p 7==2)&&((!x.5)&&true)))))))))),[],I46 b n (p+1) x (IntKind.i64.wrap (m-1))):=by kernel_rfl
theorem YZ (b:List Int) (n:Nat) (p:Int) (x:PK) (m:Int):aH 1 (aA f46 0) (aD f46 0) (aK tt (aB T71) ([]) 1 100 (a6 0 (a7 f46)) (I46 b n p x m) [(0,true),(0,false),(0,false),(0,false),(0,true),(0,true),(0,true)])=
  some (.normal,(decide (m>0)&&(decide (n=b.length)&&(aZ b&&(decide (0≤p)&&(decide (p≤1000000)&&((!pk b p 7==0)&&((!pk b p 7==1)&&((!pk b p 7==2)&&((pk b p 7==3)&&((pk b p 7==3)&&((x.5)&&(decide (n=b.length)&&(aZ b&&(decide (0≤p+1)&&(decide (p+1≤1000000)&&(decide (x.2.length=x.2.length)&&(decide (x.3.length=x.3.length)&&(decide (x.4.length=x.4.length)&&(decide (x.7.length=x.7.length)&&(decide (x.2.length=8)&&(decide (x.3.length=8)&&(decide (x.4.length=8)&&(bet x.6 1 2&&(aC x.7 4&&((bet (pk b (p+1) 8) 0 7)&&true))))))))))))))))))))))))),[],I46 b n (p+1+1) (shR x (pk b (p+1) 8)) (IntKind.i64.wrap (m-1))):=by kernel_rfl
theorem Z0 (b:List Int) (n:Nat) (p:Int) (x:PK) (m:Int):aH 1 (aA f46 0) (aD f46 0) (aK tt (aB T71) ([]) 1 100 (a6 0 (a7 f46)) (I46 b n p x m) [(0,true),(0,false),(0,false),(0,false),(0,true),(0,true),(0,false)])=
  some (.normal,(decide (m>0)&&(decide (n=b.length)&&(aZ b&&(decide (0≤p)&&(decide (p≤1000000)&&((!pk b p 7==0)&&((!pk b p 7==1)&&((!pk b p 7==2)&&((pk b p 7==3)&&((pk b p 7==3)&&((!x.5)&&true))))))))))),[],I46 b n (p+1) x (IntKind.i64.wrap (m-1))):=by kernel_rfl
theorem Z1 (b:List Int) (n:Nat) (p:Int) (x:PK) (m:Int):aH 1 (aA f46 0) (aD f46 0) (aK tt (aB T71) ([]) 1 100 (a6 0 (a7 f46)) (I46 b n p x m) [(0,true),(0,false),(0,false),(0,false),(0,false),(0,true),(0,true)])=
  some (.normal,(decide (m>0)&&(decide (n=b.length)&&(aZ b&&(decide (0≤p)&&(decide (p≤1000000)&&((!pk b p 7==0)&&((!pk b p 7==1)&&((!pk b p 7==2)&&((!pk b p 7==3)&&((pk b p 7==4)&&((x.5)&&(decide (n=b.length)&&(aZ b&&(decide (0≤p+1)&&(decide (p+1≤1000000)&&(decide (x.2.length=x.2.length)&&(decide (x.3.length=x.3.length)&&(decide (x.4.length=x.4.length)&&(decide (x.7.length=x.7.length)&&(decide (x.2.length=8)&&(decide (x.3.length=8)&&(decide (x.4.length=8)&&(bet x.6 1 2&&(aC x.7 4&&((bet (pk b (p+1) 8) 0 7)&&true))))))))))))))))))))))))),[],I46 b n (p+1+1) (shR x (pk b (p+1) 8)) (IntKind.i64.wrap (m-1))):=by kernel_rfl
theorem TL (b:List Int) (n:Nat) (p:Int) (x:PK) (m:Int):aH 1 (aA f46 0) (aD f46 0) (aK tt (aB T71) ([]) 1 100 (a6 0 (a7 f46)) (I46 b n p x m) [(0,true),(0,false),(0,false),(0,false),(0,false),(0,true),(0,false)])=
  some (.normal,(decide (m>0)&&(decide (n=b.length)&&(aZ b&&(decide (0≤p)&&(decide (p≤1000000)&&((!pk b p 7==0)&&((!pk b p 7==1)&&((!pk b p 7==2)&&((!pk b p 7==3)&&((pk b p 7==4)&&((!x.5)&&true))))))))))),[],I46 b n (p+1) x (IntKind.i64.wrap (m-1))):=by kernel_rfl
theorem TM (b:List Int) (n:Nat) (p:Int) (x:PK) (m:Int):aH 1 (aA f46 0) (aD f46 0) (aK tt (aB T71) ([]) 1 100 (a6 0 (a7 f46)) (I46 b n p x m) [(0,true),(0,false),(0,false),(0,false),(0,false),(0,false),(0,true)])=
  some (.normal,(decide (m>0)&&(decide (n=b.length)&&(aZ b&&(decide (0≤p)&&(decide (p≤1000000)&&((!pk b p 7==0)&&((!pk b p 7==1)&&((!pk b p 7==2)&&((!pk b p 7==3)&&((!pk b p 7==4)&&((pk b p 7==5)&&(decide (n=b.length)&&(aZ b&&(decide (0≤p+1)&&(decide (p+1≤1000000)&&(decide (x.2.length=x.2.length)&&(decide (x.3.length=x.3.length)&&(decide (x.4.length=x.4.length)&&(decide (x.7.length=x.7.length)&&(decide (x.2.length≤274877906944)&&((decide (x.7.length≤274877906944))&&true))))))))))))))))))))),[],I46 b n (p+1+1) (fC x (pk b (p+1) 8)) (IntKind.i64.wrap (m-1))):=by kernel_rfl
theorem TN (b:List Int) (n:Nat) (p:Int) (x:PK) (m:Int):aH 1 (aA f46 0) (aD f46 0) (aK tt (aB T71) ([]) 1 100 (a6 0 (a7 f46)) (I46 b n p x m) [(0,true),(0,false),(0,false),(0,false),(0,false),(0,false),(0,false),(0,true)])=
  some (.normal,(decide (m>0)&&(decide (n=b.length)&&(aZ b&&(decide (0≤p)&&(decide (p≤1000000)&&((!pk b p 7==0)&&((!pk b p 7==1)&&((!pk b p 7==2)&&((!pk b p 7==3)&&((!pk b p 7==4)&&((!pk b p 7==5)&&(decide (n=b.length)&&(aZ b&&(decide (0≤p+1)&&(decide (p+1≤1000000)&&((pk b (p+1) 3==0)&&(decide (x.2.length=x.2.length)&&(decide (x.3.length=x.3.length)&&(decide (x.4.length=x.4.length)&&(decide (x.7.length=x.7.length)&&(decide (x.2.length≤274877906944)&&((decide (x.7.length≤274877906944))&&true)))))))))))))))))))))),[],I46 b n (p+1+1) (bU x) (IntKind.i64.wrap (m-1))):=by kernel_rfl
theorem TO (b:List Int) (n:Nat) (p:Int) (x:PK) (m:Int):aH 1 (aA f46 0) (aD f46 0) (aK tt (aB T71) ([]) 1 100 (a6 0 (a7 f46)) (I46 b n p x m) [(0,true),(0,false),(0,false),(0,false),(0,false),(0,false),(0,false),(0,false)])=
  some (.normal,(decide (m>0)&&(decide (n=b.length)&&(aZ b&&(decide (0≤p)&&(decide (p≤1000000)&&((!pk b p 7==0)&&((!pk b p 7==1)&&((!pk b p 7==2)&&((!pk b p 7==3)&&((!pk b p 7==4)&&((!pk b p 7==5)&&(decide (n=b.length)&&(aZ b&&(decide (0≤p+1)&&(decide (p+1≤1000000)&&((!pk b (p+1) 3==0)&&true)))))))))))))))),[],I46 b n (p+1+1) x (IntKind.i64.wrap (m-1))):=by kernel_rfl
theorem TP (b:List Int) (n:Nat) (p:Int) (x:PK) (m:Int):aH 1 (aA f46 0) (aD f46 0) (aK tt (aB T71) ([]) 1 100 (a6 0 (a7 f46)) (I46 b n p x m) [(0,false)])=
  some (.exit 0,((!decide (m>0))&&true),[],X46 b n (p) x):=by kernel_rfl
end
section
theorem bE.froz1 {P:Program} {f:FuncId} {args:List AV} {h h':List b9} {cs:List aJ} (hm:bE P f args h (.agg cs) h') {j id len:Nat} {c:Con} (hj:cs.getD j .any=.sl id 0 len 1 none) (hjl:j<cs.length) (hs:Heap.get h' id=.live c) (hf:c.free=true) (hz:len=c.size):
  bE P f args h (.agg (cs.set j (.view none c len 1 none))) (h'.set id .dead):=by
 refine⟨hm.1,fun {X w0 ρ0} m vs hl' hv=> ?_⟩
 refine Calls.mono (hm.2 m vs hl' hv) ?_
 rintro e w' ⟨v,ρ',rfl,mb,im,m',hx⟩
 obtain⟨mo,m2⟩:=m'.kill (id:=id) (by rw[hs];simp)
 refine⟨v,upd ρ' id .dead,rfl,mb.trans mo.toB,im.trans mo.ids,m2, ?_⟩
 cases hx with
 |agg cs us hus hx=>
  refine .agg _ us (by rw[List.length_set];exact hus) fun i hi=> ?_
  rw[List.length_set]at hi
  have hxi:=hx i hi
  by_cases ei:j=i
  ·subst ei
   have e1:(cs.set j (.view none c len 1 none)).getD j .any=.view none c len 1 none:=by
    rw[List.getD_eq_getElem?_getD,List.getElem?_set_self hi];rfl
   rw[e1]
   rw[hj]at hxi
   have nl: ∀b,ρ' id=.row b→ ¬(bL (upd ρ' id .dead) b∨X b):=by
    rintro b hb (⟨q,hq⟩|hxb)
    ·by_cases eq:q=id
     ·subst eq;rw[bC]at hq;cases hq
     ·rw[bK _ _ eq]at hq;exact eq (m'.inj q id b hq hb)
    ·exact m'.notX hb hxb
   revert hxi
   generalize us.getD j undef=u
   intro hxi
   rcases d7 m' hs hxi with⟨b,k,ty,n,hb,rfl,⟨ds,ty',hrow,hsz,hcs⟩,hsh,hn,hlc,hcap⟩|⟨ad,rfl,rfl,hcap⟩
   ·rw[Nat.zero_mul]
    refine .view none c len 1 none b 0 k (fun q=>ds.getD q undef) (fun _ h=>nl b hb h) (fun q hq=> ?_) (fun q hq=> ?_) (by omega) hlc (fun _ h=>by cases h) (fun _ h=>by cases h)
    ·have hq':q<ds.size:=by omega
     simp[World.cell?,hrow,Array.getD,hq']
    ·exact CR0.mono (mo.toB.or X) ((hcs q hq).free (eT hf q)) (cF.noIds _)
   ·exact .viewNone none c 1 none ad 0 hz.symm (fun _ h=>by cases h) (fun _ h=>by cases h) (fun _=>rfl)
  ·have e1:(cs.set j (.view none c len 1 none)).getD i .any=cs.getD i .any:=by
    rw[List.getD_eq_getElem?_getD,List.getElem?_set_ne ei,←List.getD_eq_getElem?_getD]
   rw[e1]
   exact hxi.mono mo
theorem bE.addDead {P:Program} {f:FuncId} {args:List AV} {h h':List b9} {res:AV} (hm:bE P f args h res h'):bE P f args h res (h'++[.dead]):=by
 refine⟨hm.1,fun {X w0 ρ0} m vs hl hv=> ?_⟩
 refine Calls.mono (hm.2 m vs hl hv) ?_
 rintro e w' ⟨v,ρ',rfl,mb,im,m',hx⟩
 obtain⟨hun,m2⟩:=m'.addNil (c0:=.ints .i64 []) rfl
 have mo:=fY w' hun
 have hg:Heap.get (h'++[.live (.ints .i64 [])]) h'.length=.live (.ints .i64 []):=by
  unfold Heap.get
  rw[List.getD_eq_getElem?_getD,List.getElem?_append_right (Nat.le_refl _)];simp
 obtain⟨mo2,m3⟩:=m2.kill (id:=h'.length) (by rw[hg];simp)
 have e:(h'++[b9.live (.ints .i64 [])]).set h'.length .dead=h'++[.dead]:=by
  rw[List.set_append_right _ _ (Nat.le_refl _)];simp
 rw[e]at m3
 exact⟨v,_,rfl,(mb.trans mo.toB).trans mo2.toB,(im.trans mo.ids).trans mo2.ids,m3,(hx.mono mo).mono mo2⟩
end
section
def kpS (b:List Int) (_:Nat) (s:PK×Int):PK×Int:=
 bif pk b s.2 7==0||pk b s.2 7==1 then(bif gV s.1 (1+pk b (s.2+1) 2) (d4L b (s.2+2))then cS s.1 (1+pk b (s.2+1) 2) (d4L b (s.2+2))else s.1,s.2+6)else
 bif pk b s.2 7==2||(pk b s.2 7==3||pk b s.2 7==4)then(bif s.1.on then(shR s.1 (pk b (s.2+1) 8),s.2+2)else(s.1,s.2+1))else
 bif pk b s.2 7==5 then(fC s.1 (pk b (s.2+1) 8),s.2+2)else
 (bif pk b (s.2+1) 3==0 then bU s.1 else s.1,s.2+2)
theorem HV (b:List Int) (p:Int):aC (d4L b p) 4=true:=by
 have h1:=cR b p (x:=31) (by omega)
 have h2:=cR b (p+1) (x:=4) (by omega)
 have h3:=cR b (p+2) (x:=31) (by omega)
 have h4:=cR b (p+3) (x:=27) (by omega)
 unfold d4L aC a9
 simp only[List.all_cons,List.all_nil,cU.2 (show 0≤pk b p 31∧pk b p 31≤30 by omega),cU.2 (show 0≤pk b (p+1) 4∧pk b (p+1) 4≤30 by omega),cU.2 (show 0≤pk b (p+2) 31∧pk b (p+2) 31≤30 by omega),cU.2 (show 0≤pk b (p+3) 27∧pk b (p+3) 27≤30 by omega)]
 rfl
theorem E2 (b:List Int) {i:Nat} {s:PK×Int} (h:s.1.ok=true∧0≤s.2):(kpS b i s).1.ok=true∧s.2≤(kpS b i s).2∧(kpS b i s).2≤s.2+6:=by
 obtain⟨h1,h2⟩:=h
 have h8:=cR b (s.2+1) (x:=8) (by omega)
 have hb8:bet (pk b (s.2+1) 8) 0 7=true:=b8.2 (by omega)
 unfold kpS
 cases c1:pk b s.2 7==0||pk b s.2 7==1 with
 |true=>
  rw[cond_true]
  refine⟨?_,by dsimp only;omega,by dsimp only;omega⟩
  cases c2:gV s.1 (1+pk b (s.2+1) 2) (d4L b (s.2+2))with
  |true=>exact RK c2
  |false=>exact h1
 |false=>
  rw[cond_false]
  cases c3:pk b s.2 7==2||(pk b s.2 7==3||pk b s.2 7==4)with
  |true=>
   rw[cond_true]
   cases ho:s.1.on with
   |true=>exact⟨JL h1 ho hb8,by rw[cond_true];dsimp only;omega,by rw[cond_true];dsimp only;omega⟩
   |false=>exact⟨h1,by rw[cond_false];dsimp only;omega,by rw[cond_false];dsimp only;omega⟩
  |false=>
   rw[cond_false]
   cases c4:pk b s.2 7==5 with
   |true=>exact⟨E9 h1 hb8,by rw[cond_true];dsimp only;omega,by rw[cond_true];dsimp only;omega⟩
   |false=>
    rw[cond_false]
    refine⟨?_,by dsimp only;omega,by dsimp only;omega⟩
    cases c5:pk b (s.2+1) 3==0 with
    |true=>exact MD h1
    |false=>exact h1
theorem q2 (p:Int):p+2+4=p+6:=by omega
theorem l46 (b:List Int) (n:Nat) (p:Int) (x:PK) (N:Nat) (o1:n=b.length) (o2:aZ b=true) (o3:0≤p) (o4:p≤800000) (hN:N≤100) (hx:x.ok=true):
  aW Tryz.prog 1 (.block 0 (.loop (a6 0 (a7 f46)))) (I46 b n p x N) fun e t=>e=.normal∧t=X46 b n (bP (kpS b) N 0 (x,p)).2 (bP (kpS b) N 0 (x,p)).1:=by
 have key:=aW.count hT t71 bM (m:=1) (id:=0) (body:=a6 0 (a7 f46)) N (fun i s=>s.1.ok=true∧0≤s.2∧s.2≤p+6*i) (fun i s=>I46 b n s.2 s.1 ((N:Int)-i)) (fun s=>X46 b n s.2 s.1) (kpS b) (aA f46 0) (aD f46 0)
  (fun _ _=>[]) (fun _ _ _ _=>aF.nil) (fun i s hi h=> ?_) (fun s h=>⟨_,_,⟨_,_,TP b n s.2 s.1 ((N:Int)-N),by simp,by simp⟩⟩) (x,p) ⟨hx,o3,by simp⟩
 ·have e0:(N:Int)-((0:Nat):Int)=N:=by omega
  rw[e0]at key;exact key
 ·obtain⟨h1,h2,h3⟩:=h
  obtain⟨k1,k2,k3⟩:=E2 b (i:=i) (s:=s) ⟨h1,h2⟩
  refine⟨⟨k1,by omega,by omega⟩, ?_⟩
  obtain⟨x,p'⟩:=s
  dsimp only at h1 h2 h3⊢
  obtain⟨g4,ga,gb,gc⟩:=gG h1
  have w:IntKind.i64.wrap ((N:Int)-i-1)=(N:Int)-((i+1:Nat):Int):=by rw[dQ (by omega) (by omega)];omega
  have hm:(N:Int)-i>0:=by omega
  have h8:=cR b (p'+1) (x:=8) (by omega)
  have hb8:bet (pk b (p'+1) 8) 0 7=true:=b8.2 (by omega)
  have h22:=cR b (p'+1) (x:=2) (by omega)
  have h7:=cR b p' (x:=7) (by omega)
  have w2:IntKind.i64.wrap (1+pk b (p'+1) 2)=1+pk b (p'+1) 2:=aE (by omega) (by omega)
  unfold kpS
  dsimp only
  have hv:pk b p' 7=0∨pk b p' 7=1∨pk b p' 7=2∨pk b p' 7=3∨pk b p' 7=4∨pk b p' 7=5∨pk b p' 7=6:=by omega
  rcases hv with c0|c0|c0|c0|c0|c0|c0
  ·rw[c0]
   show∃f p,Rnd 1 _ _ _ _ (I46 b n (p'+6) (bif gV x (1+pk b (p'+1) 2) (d4L b (p'+2))then cS x (1+pk b (p'+1) 2) (d4L b (p'+2))else x) _)
   cases c2:gV x (1+pk b (p'+1) 2) (d4L b (p'+2))with
   |true=>
    have c2':gV ⟨x.k,x.a,x.b,x.c,x.on,x.kd,x.d,x.vs⟩ (1+pk b (p'+1) 2) (d4L b (p'+2))=true:=c2
    have e:=YT b n p' x ((N:Int)-i)
    simp only[p2,q2,w,w2]at e
    refine⟨_,_,⟨_,_,e, ?_,by simp⟩⟩
    simp only[c0,c2',o1,o2,ga,gb,gc,bS]
    simp
    omega
   |false=>
    have c2':gV ⟨x.k,x.a,x.b,x.c,x.on,x.kd,x.d,x.vs⟩ (1+pk b (p'+1) 2) (d4L b (p'+2))=false:=c2
    have e:=YU b n p' x ((N:Int)-i)
    simp only[p2,q2,w,w2]at e
    refine⟨_,_,⟨_,_,e, ?_,by simp⟩⟩
    simp only[c0,c2',o1,o2,ga,gb,gc,bS]
    simp
    omega
  ·rw[c0]
   show∃f p,Rnd 1 _ _ _ _ (I46 b n (p'+6) (bif gV x (1+pk b (p'+1) 2) (d4L b (p'+2))then cS x (1+pk b (p'+1) 2) (d4L b (p'+2))else x) _)
   cases c2:gV x (1+pk b (p'+1) 2) (d4L b (p'+2))with
   |true=>
    have c2':gV ⟨x.k,x.a,x.b,x.c,x.on,x.kd,x.d,x.vs⟩ (1+pk b (p'+1) 2) (d4L b (p'+2))=true:=c2
    have e:=YV b n p' x ((N:Int)-i)
    simp only[p2,q2,w,w2]at e
    refine⟨_,_,⟨_,_,e, ?_,by simp⟩⟩
    simp only[c0,c2',o1,o2,ga,gb,gc,bS]
    simp
    omega
   |false=>
    have c2':gV ⟨x.k,x.a,x.b,x.c,x.on,x.kd,x.d,x.vs⟩ (1+pk b (p'+1) 2) (d4L b (p'+2))=false:=c2
    have e:=YW b n p' x ((N:Int)-i)
    simp only[p2,q2,w,w2]at e
    refine⟨_,_,⟨_,_,e, ?_,by simp⟩⟩
    simp only[c0,c2',o1,o2,ga,gb,gc,bS]
    simp
    omega
  ·rw[c0]
   show∃f p,Rnd 1 _ _ _ _ (I46 b n (bif x.on then(shR x (pk b (p'+1) 8),p'+2)else(x,p'+1)).2 (bif x.on then(shR x (pk b (p'+1) 8),p'+2)else(x,p'+1)).1 _)
   cases ho:x.on with
   |true=>
    have K:=x.onK h1 ho
    have e:=YX b n p' x ((N:Int)-i)
    simp only[p2,q2,w,w2]at e
    refine⟨_,_,⟨_,_,e, ?_,by simp⟩⟩
    simp only[c0,ho,K.hkd,K.hd,hb8,o1,o2,ga,gb,gc,bS]
    simp
    omega
   |false=>
    have e:=YY b n p' x ((N:Int)-i)
    simp only[p2,q2,w,w2]at e
    refine⟨_,_,⟨_,_,e, ?_,by simp⟩⟩
    simp only[c0,ho,o1,o2,ga,gb,gc,bS]
    simp
    omega
  ·rw[c0]
   show∃f p,Rnd 1 _ _ _ _ (I46 b n (bif x.on then(shR x (pk b (p'+1) 8),p'+2)else(x,p'+1)).2 (bif x.on then(shR x (pk b (p'+1) 8),p'+2)else(x,p'+1)).1 _)
   cases ho:x.on with
   |true=>
    have K:=x.onK h1 ho
    have e:=YZ b n p' x ((N:Int)-i)
    simp only[p2,q2,w,w2]at e
    refine⟨_,_,⟨_,_,e, ?_,by simp⟩⟩
    simp only[c0,ho,K.hkd,K.hd,hb8,o1,o2,ga,gb,gc,bS]
    simp
    omega
   |false=>
    have e:=Z0 b n p' x ((N:Int)-i)
    simp only[p2,q2,w,w2]at e
    refine⟨_,_,⟨_,_,e, ?_,by simp⟩⟩
    simp only[c0,ho,o1,o2,ga,gb,gc,bS]
    simp
    omega
  ·rw[c0]
   show∃f p,Rnd 1 _ _ _ _ (I46 b n (bif x.on then(shR x (pk b (p'+1) 8),p'+2)else(x,p'+1)).2 (bif x.on then(shR x (pk b (p'+1) 8),p'+2)else(x,p'+1)).1 _)
   cases ho:x.on with
   |true=>
    have K:=x.onK h1 ho
    have e:=Z1 b n p' x ((N:Int)-i)
    simp only[p2,q2,w,w2]at e
    refine⟨_,_,⟨_,_,e, ?_,by simp⟩⟩
    simp only[c0,ho,K.hkd,K.hd,hb8,o1,o2,ga,gb,gc,bS]
    simp
    omega
   |false=>
    have e:=TL b n p' x ((N:Int)-i)
    simp only[p2,q2,w,w2]at e
    refine⟨_,_,⟨_,_,e, ?_,by simp⟩⟩
    simp only[c0,ho,o1,o2,ga,gb,gc,bS]
    simp
    omega
  ·rw[c0]
   show∃f p,Rnd 1 _ _ _ _ (I46 b n (p'+2) (fC x (pk b (p'+1) 8)) _)
   have e:=TM b n p' x ((N:Int)-i)
   simp only[p2,q2,w,w2]at e
   refine⟨_,_,⟨_,_,e, ?_,by simp⟩⟩
   simp only[c0,o1,o2,ga,gb,gc,bS]
   simp
   omega
  ·rw[c0]
   show∃f p,Rnd 1 _ _ _ _ (I46 b n (p'+2) (bif pk b (p'+1) 3==0 then bU x else x) _)
   cases c5:pk b (p'+1) 3==0 with
   |true=>
    have e:=TN b n p' x ((N:Int)-i)
    simp only[p2,q2,w,w2]at e
    refine⟨_,_,⟨_,_,e, ?_,by simp⟩⟩
    simp only[c0,c5,o1,o2,ga,gb,gc,bS]
    simp
    omega
   |false=>
    have e:=TO b n p' x ((N:Int)-i)
    simp only[p2,q2,w,w2]at e
    refine⟨_,_,⟨_,_,e, ?_,by simp⟩⟩
    simp only[c0,c5,o1,o2,ga,gb,gc,bS]
    simp
    omega
theorem a2K (b:List Int) (n:Nat) (p q:Int) (x y:PK) (m:Int):aG tt (aB T71) ([(0,⟨aA f46 0,I46 b n (p+1+4+1) (snK (IntKind.i64.wrap (1+pk b p 2)) (d4L b (p+1)) 1) (pk b (p+1+4) 14),.normal,X46 b n q y⟩)]) 100 f46 [.c (.ptr 0 0 0 0)] [.live (.cells [.view none (.ints .u8 b) n 1 none,.int .i64 p])] [(0,true)]=
  some ⟨.agg [.int .i64 y.1,.sl 1 0 y.2.length 1 none,.sl 2 0 y.3.length 1 none,.sl 3 0 y.4.length 1 none,.bool y.5,.int .i64 y.6,.sl 4 0 y.7.length 1 none,.int .i64 y.8],[.live (.cells [.view none (.ints .u8 b) n 1 none,.int .i64 (nmV b (q+1+1)).snd]),.live (.ints .i64 (y.2.set (pk b (q+1) 8).toNat (nmV b (q+1+1)).fst)),.live (.ints .i64 y.3),.live (.bools y.4),.live (.ints .i64 y.7)],(decide (n=b.length)&&(aZ b&&(decide (0≤p)&&(decide (p≤1000000)&&(decide (n=b.length)&&(aZ b&&(decide (0≤p+1)&&(decide (p+1≤900000)&&(decide (n=b.length)&&(aZ b&&(decide (0≤p+1+4)&&(decide (p+1+4≤1000000)&&(decide (n=b.length)&&(aZ b&&(decide (0≤q)&&(decide (q≤1000000)&&((pk b q 30==0)&&(decide (n=b.length)&&(aZ b&&(decide (0≤q+1)&&(decide (q+1≤1000000)&&(decide (n=b.length)&&(aZ b&&(decide (0≤q+1+1)&&(decide (q+1+1≤900000)&&(decide (0≤pk b (q+1) 8)&&(decide (pk b (q+1) 8<(↑y.2.length:Int))&&((decide ((pk b (q+1) 8).toNat<y.2.length))&&true)))))))))))))))))))))))))))),[I46 b n (p+1+4+1) (snK (IntKind.i64.wrap (1+pk b p 2)) (d4L b (p+1)) 1) (pk b (p+1+4) 14)=I46 b n (p+1+4+1) (snK (IntKind.i64.wrap (1+pk b p 2)) (d4L b (p+1)) 1) (pk b (p+1+4) 14)]⟩:=by kernel_rfl
theorem a2L (b:List Int) (n:Nat) (p q:Int) (x y:PK) (m:Int):aG tt (aB T71) ([(0,⟨aA f46 0,I46 b n (p+1+4+1) (snK (IntKind.i64.wrap (1+pk b p 2)) (d4L b (p+1)) 1) (pk b (p+1+4) 14),.normal,X46 b n q y⟩)]) 100 f46 [.c (.ptr 0 0 0 0)] [.live (.cells [.view none (.ints .u8 b) n 1 none,.int .i64 p])] [(0,false),(0,true)]=
  some ⟨.agg [.int .i64 y.1,.sl 1 0 y.2.length 1 none,.sl 2 0 y.3.length 1 none,.sl 3 0 y.4.length 1 none,.bool y.5,.int .i64 y.6,.sl 4 0 y.7.length 1 none,.int .i64 (pk b (q+1) 5)],[.live (.cells [.view none (.ints .u8 b) n 1 none,.int .i64 (q+1+1)]),.live (.ints .i64 y.2),.live (.ints .i64 y.3),.live (.bools y.4),.live (.ints .i64 y.7)],(decide (n=b.length)&&(aZ b&&(decide (0≤p)&&(decide (p≤1000000)&&(decide (n=b.length)&&(aZ b&&(decide (0≤p+1)&&(decide (p+1≤900000)&&(decide (n=b.length)&&(aZ b&&(decide (0≤p+1+4)&&(decide (p+1+4≤1000000)&&(decide (n=b.length)&&(aZ b&&(decide (0≤q)&&(decide (q≤1000000)&&((!pk b q 30==0)&&((pk b q 30==1)&&(decide (n=b.length)&&(aZ b&&(decide (0≤q+1)&&((decide (q+1≤1000000))&&true)))))))))))))))))))))),[I46 b n (p+1+4+1) (snK (IntKind.i64.wrap (1+pk b p 2)) (d4L b (p+1)) 1) (pk b (p+1+4) 14)=I46 b n (p+1+4+1) (snK (IntKind.i64.wrap (1+pk b p 2)) (d4L b (p+1)) 1) (pk b (p+1+4) 14)]⟩:=by kernel_rfl
theorem a2M (b:List Int) (n:Nat) (p q:Int) (x y:PK) (m:Int):aG tt (aB T71) ([(0,⟨aA f46 0,I46 b n (p+1+4+1) (snK (IntKind.i64.wrap (1+pk b p 2)) (d4L b (p+1)) 1) (pk b (p+1+4) 14),.normal,X46 b n q y⟩)]) 100 f46 [.c (.ptr 0 0 0 0)] [.live (.cells [.view none (.ints .u8 b) n 1 none,.int .i64 p])] [(0,false),(0,false),(0,true)]=
  some ⟨.agg [.int .i64 y.1,.sl 1 0 y.2.length 1 none,.sl 2 0 y.3.length 1 none,.sl 3 0 y.4.length 1 none,.bool !y.5,.int .i64 y.6,.sl 4 0 y.7.length 1 none,.int .i64 y.8],[.live (.cells [.view none (.ints .u8 b) n 1 none,.int .i64 (q+1)]),.live (.ints .i64 y.2),.live (.ints .i64 y.3),.live (.bools y.4),.live (.ints .i64 y.7)],(decide (n=b.length)&&(aZ b&&(decide (0≤p)&&(decide (p≤1000000)&&(decide (n=b.length)&&(aZ b&&(decide (0≤p+1)&&(decide (p+1≤900000)&&(decide (n=b.length)&&(aZ b&&(decide (0≤p+1+4)&&(decide (p+1+4≤1000000)&&(decide (n=b.length)&&(aZ b&&(decide (0≤q)&&(decide (q≤1000000)&&((!pk b q 30==0)&&((!pk b q 30==1)&&((pk b q 30==2)&&true))))))))))))))))))),[I46 b n (p+1+4+1) (snK (IntKind.i64.wrap (1+pk b p 2)) (d4L b (p+1)) 1) (pk b (p+1+4) 14)=I46 b n (p+1+4+1) (snK (IntKind.i64.wrap (1+pk b p 2)) (d4L b (p+1)) 1) (pk b (p+1+4) 14)]⟩:=by kernel_rfl
theorem a2N (b:List Int) (n:Nat) (p q:Int) (x y:PK) (m:Int):aG tt (aB T71) ([(0,⟨aA f46 0,I46 b n (p+1+4+1) (snK (IntKind.i64.wrap (1+pk b p 2)) (d4L b (p+1)) 1) (pk b (p+1+4) 14),.normal,X46 b n q y⟩)]) 100 f46 [.c (.ptr 0 0 0 0)] [.live (.cells [.view none (.ints .u8 b) n 1 none,.int .i64 p])] [(0,false),(0,false),(0,false),(0,true)]=
  some ⟨.agg [.int .i64 y.1,.sl 1 0 y.2.length 1 none,.sl 2 0 y.3.length 1 none,.sl 3 0 y.4.length 1 none,.bool y.5,.int .i64 y.6,.view none (.ints .i64 (vcL b (q+1)).fst) (vcL b (q+1)).fst.length 1 none,.int .i64 y.8],[.live (.cells [.view none (.ints .u8 b) n 1 none,.int .i64 (vcL b (q+1)).snd]),.live (.ints .i64 y.2),.live (.ints .i64 y.3),.live (.bools y.4)],(decide (n=b.length)&&(aZ b&&(decide (0≤p)&&(decide (p≤1000000)&&(decide (n=b.length)&&(aZ b&&(decide (0≤p+1)&&(decide (p+1≤900000)&&(decide (n=b.length)&&(aZ b&&(decide (0≤p+1+4)&&(decide (p+1+4≤1000000)&&(decide (n=b.length)&&(aZ b&&(decide (0≤q)&&(decide (q≤1000000)&&((!pk b q 30==0)&&((!pk b q 30==1)&&((!pk b q 30==2)&&((pk b q 30==3)&&(decide (n=b.length)&&(aZ b&&(decide (0≤q+1)&&((decide (q+1≤900000))&&true)))))))))))))))))))))))),[I46 b n (p+1+4+1) (snK (IntKind.i64.wrap (1+pk b p 2)) (d4L b (p+1)) 1) (pk b (p+1+4) 14)=I46 b n (p+1+4+1) (snK (IntKind.i64.wrap (1+pk b p 2)) (d4L b (p+1)) 1) (pk b (p+1+4) 14)]⟩:=by kernel_rfl
theorem a2O (b:List Int) (n:Nat) (p q:Int) (x y:PK) (m:Int):aG tt (aB T71) ([(0,⟨aA f46 0,I46 b n (p+1+4+1) (snK (IntKind.i64.wrap (1+pk b p 2)) (d4L b (p+1)) 1) (pk b (p+1+4) 14),.normal,X46 b n q y⟩)]) 100 f46 [.c (.ptr 0 0 0 0)] [.live (.cells [.view none (.ints .u8 b) n 1 none,.int .i64 p])] [(0,false),(0,false),(0,false),(0,false)]=
  some ⟨.agg [.int .i64 y.1,.sl 1 0 y.2.length 1 none,.sl 2 0 y.3.length 1 none,.sl 3 0 y.4.length 1 none,.bool y.5,.int .i64 y.6,.sl 4 0 y.7.length 1 none,.int .i64 y.8],[.live (.cells [.view none (.ints .u8 b) n 1 none,.int .i64 (q+1)]),.live (.ints .i64 y.2),.live (.ints .i64 y.3),.live (.bools y.4),.live (.ints .i64 y.7)],(decide (n=b.length)&&(aZ b&&(decide (0≤p)&&(decide (p≤1000000)&&(decide (n=b.length)&&(aZ b&&(decide (0≤p+1)&&(decide (p+1≤900000)&&(decide (n=b.length)&&(aZ b&&(decide (0≤p+1+4)&&(decide (p+1+4≤1000000)&&(decide (n=b.length)&&(aZ b&&(decide (0≤q)&&(decide (q≤1000000)&&((!pk b q 30==0)&&((!pk b q 30==1)&&((!pk b q 30==2)&&((!pk b q 30==3)&&true)))))))))))))))))))),[I46 b n (p+1+4+1) (snK (IntKind.i64.wrap (1+pk b p 2)) (d4L b (p+1)) 1) (pk b (p+1+4) 14)=I46 b n (p+1+4+1) (snK (IntKind.i64.wrap (1+pk b p 2)) (d4L b (p+1)) 1) (pk b (p+1+4) 14)]⟩:=by kernel_rfl
end
section
def PK.vcells (x:PK):List aJ:=[.int .i64 x.k,.view none (.ints .i64 x.a) x.a.length 1 none,.view none (.ints .i64 x.b) x.b.length 1 none,.view none (.bools x.c) x.c.length 1 none,.bool x.on,.int .i64 x.kd,.view none (.ints .i64 x.d) x.d.length 1 none,.int .i64 x.vs]
theorem DZ {P:Program} {f:FuncId} {args:List AV} {h:List b9} {s:b9} {x:PK} (hm:bE P f args h (.agg [.int .i64 x.k,.sl 1 0 x.a.length 1 none,.sl 2 0 x.b.length 1 none,.sl 3 0 x.c.length 1 none,.bool x.on,.int .i64 x.kd,.sl 4 0 x.d.length 1 none,.int .i64 x.vs]) [s,.live (.ints .i64 x.a),.live (.ints .i64 x.b),.live (.bools x.c),.live (.ints .i64 x.d)]):
  bE P f args h (.agg x.vcells) [s,.dead,.dead,.dead,.dead]:=
 (((hm.froz1 (j:=1) (id:=1) (c:=.ints .i64 x.a) rfl (by show 1<8;omega) rfl rfl rfl).froz1 (j:=2) (id:=2) (c:=.ints .i64 x.b) rfl (by show 2<8;omega) rfl rfl rfl).froz1 (j:=3) (id:=3) (c:=.bools x.c) rfl (by show 3<8;omega) rfl rfl rfl).froz1 (j:=6) (id:=4) (c:=.ints .i64 x.d) rfl (by show 6<8;omega) rfl rfl rfl
theorem QW {P:Program} {f:FuncId} {args:List AV} {h:List b9} {s:b9} {x:PK} (hm:bE P f args h (.agg [.int .i64 x.k,.sl 1 0 x.a.length 1 none,.sl 2 0 x.b.length 1 none,.sl 3 0 x.c.length 1 none,.bool x.on,.int .i64 x.kd,.view none (.ints .i64 x.d) x.d.length 1 none,.int .i64 x.vs]) [s,.live (.ints .i64 x.a),.live (.ints .i64 x.b),.live (.bools x.c)]):
  bE P f args h (.agg x.vcells) [s,.dead,.dead,.dead,.dead]:=
 (((hm.froz1 (j:=1) (id:=1) (c:=.ints .i64 x.a) rfl (by show 1<8;omega) rfl rfl rfl).froz1 (j:=2) (id:=2) (c:=.ints .i64 x.b) rfl (by show 2<8;omega) rfl rfl rfl).froz1 (j:=3) (id:=3) (c:=.bools x.c) rfl (by show 3<8;omega) rfl rfl rfl).addDead
def kdT (b:List Int) (y:PK) (q:Int):PK×Int:=
 bif pk b q 30==0 then(⟨y.k,y.a.set (pk b (q+1) 8).toNat (nmV b (q+2)).1,y.b,y.c,y.on,y.kd,y.d,y.vs⟩,(nmV b (q+2)).2)else
 bif pk b q 30==1 then(⟨y.k,y.a,y.b,y.c,y.on,y.kd,y.d,pk b (q+1) 5⟩,q+2)else
 bif pk b q 30==2 then(⟨y.k,y.a,y.b,y.c, !y.on,y.kd,y.d,y.vs⟩,q+1)else
 bif pk b q 30==3 then(⟨y.k,y.a,y.b,y.c,y.on,y.kd,(vcL b (q+1)).1,y.vs⟩,(vcL b (q+1)).2)else(y,q+1)
def kdS (b:List Int) (p:Int):PK×Int:=bP (kpS b) (pk b (p+5) 14).toNat 0 (snK (1+pk b p 2) (d4L b (p+1)) 1,p+6)
def kdr (b:List Int) (p:Int):PK×Int:=kdT b (kdS b p).1 (kdS b p).2
theorem E0 (b:List Int) {p:Int} (h0:0≤p):(kdS b p).1.ok=true∧p≤(kdS b p).2∧(kdS b p).2≤p+100:=by
 have h2:=cR b p (x:=2) (by omega)
 have h14:=cR b (p+5) (x:=14) (by omega)
 have hs:snB (1+pk b p 2) (d4L b (p+1)) 1=true:=by
  unfold snB
  rw[b8.2 (show 1≤1+pk b p 2∧1+pk b p 2≤2 by omega),HV];rfl
 have key:=bH (step:=kpS b) (fun i s=>s.1.ok=true∧p+6≤s.2∧s.2≤p+6+6*i) (pk b (p+5) 14).toNat (snK (1+pk b p 2) (d4L b (p+1)) 1,p+6) ⟨JK hs,by dsimp only;omega,by dsimp only;omega⟩ fun i s _ h=>by
  obtain⟨k1,k2,k3⟩:=E2 b (i:=i) (s:=s) ⟨h.1,by omega⟩
  exact⟨k1,by omega,by omega⟩
 unfold kdS
 exact⟨key.1,by omega,by omega⟩
def GF:aQ:=fun args h=>
 match args,h with
 |[.c (.ptr 0 0 0 0)],[.live (.cells [.view none (.ints .u8 b) n 1 none,.int .i64 p])]=>
  some (.agg (kdr b p).1.vcells,[.live (.cells [.view none (.ints .u8 b) n 1 none,.int .i64 (kdr b p).2]),.dead,.dead,.dead,.dead],[decide (n=b.length),aZ b,decide (0≤p),decide (p≤700000)])
 |_,_=>none
theorem m46:aS Tryz.prog 46 GF:=by
 intro args h res h' o he ho
 unfold GF at he
 split at he
 case h_2=>cases he
 rename_i b n p
 simp only[Option.some.injEq,Prod.mk.injEq]at he
 obtain⟨rfl,rfl,rfl⟩:=he
 simp only[List.mem_cons,List.not_mem_nil,or_false,forall_eq_or_imp,forall_eq,decide_eq_true_eq]at ho
 obtain⟨o1,o2,o3,o4⟩:=ho
 have h2:=cR b p (x:=2) (by omega)
 have h14:=cR b (p+5) (x:=14) (by omega)
 obtain⟨i1,i2,i3⟩:=E0 b o3
 obtain⟨g4,ga,gb,gc⟩:=gG i1
 have hs:snB (1+pk b p 2) (d4L b (p+1)) 1=true:=by
  unfold snB
  rw[b8.2 (show 1≤1+pk b p 2∧1+pk b p 2≤2 by omega),HV];rfl
 have w2:IntKind.i64.wrap (1+pk b p 2)=1+pk b p 2:=aE (by omega) (by omega)
 have e6:p+1+4+1=p+6:=by omega
 have e5:p+1+4=p+5:=by omega
 have g:=l46 b n (p+6) (snK (1+pk b p 2) (d4L b (p+1)) 1) (pk b (p+5) 14).toNat o1 o2 (by omega) (by omega) (by omega) (JK hs)
 rw[show(((pk b (p+5) 14).toNat:Nat):Int)=pk b (p+5) 14 from by omega]at g
 have g':aW Tryz.prog 1 (.block 0 (.loop (a6 0 (a7 f46)))) (I46 b n (p+1+4+1) (snK (IntKind.i64.wrap (1+pk b p 2)) (d4L b (p+1)) 1) (pk b (p+1+4) 14)) fun e t=>e=.normal∧t=X46 b n (kdS b p).2 (kdS b p).1:=by
  rw[w2,e5,show p+5+1=p+6 from by omega];exact g
 have lo: ∀cc,a7 f46=cc→aF Tryz.prog 1 [(0,⟨aA f46 0,I46 b n (p+1+4+1) (snK (IntKind.i64.wrap (1+pk b p 2)) (d4L b (p+1)) 1) (pk b (p+1+4) 14),.normal,X46 b n (kdS b p).2 (kdS b p).1⟩)] cc:=fun cc h=>by
  subst h;exact aF.cons (by kernel_rfl) g' aF.nil
 unfold kdr
 revert i1 i2 i3 ga gb gc g4 lo
 clear g g'
 generalize (kdS b p).1=y
 generalize (kdS b p).2=q
 intro i1 i2 i3 g4 ga gb gc lo
 have h8:=cR b (q+1) (x:=8) (by omega)
 unfold kdT
 cases c1:pk b q 30==0 with
 |true=>
  have e:=a2K b n p q (snK (1+pk b p 2) (d4L b (p+1)) 1) y 0
  have el:y.a.length=(y.a.set (pk b (q+1) 8).toNat (nmV b (q+2)).1).length:=List.length_set.symm
  have mm:=a5 (f:=46) t71 (fn:=f46) (by kernel_rfl) (by kernel_rfl) e (by simp only[c1,o1,o2,ga,bS];omega) (by simp) (fun cc hcc=>lo cc (by cases hcc;rfl))
  rw[show q+1+1=q+2 from by omega,el]at mm
  exact DZ (x:=⟨y.k,y.a.set (pk b (q+1) 8).toNat (nmV b (q+2)).1,y.b,y.c,y.on,y.kd,y.d,y.vs⟩) mm
 |false=>
  cases c2:pk b q 30==1 with
  |true=>
   have e:=a2L b n p q (snK (1+pk b p 2) (d4L b (p+1)) 1) y 0
   have mm:=a5 (f:=46) t71 (fn:=f46) (by kernel_rfl) (by kernel_rfl) e (by simp only[c1,c2,o1,o2,ga,bS];omega) (by simp) (fun cc hcc=>lo cc (by cases hcc;rfl))
   rw[show q+1+1=q+2 from by omega]at mm
   exact DZ (x:=⟨y.k,y.a,y.b,y.c,y.on,y.kd,y.d,pk b (q+1) 5⟩) mm
  |false=>
   cases c3:pk b q 30==2 with
   |true=>
    have e:=a2M b n p q (snK (1+pk b p 2) (d4L b (p+1)) 1) y 0
    have mm:=a5 (f:=46) t71 (fn:=f46) (by kernel_rfl) (by kernel_rfl) e (by simp only[c1,c2,c3,o1,o2,ga,bS];omega) (by simp) (fun cc hcc=>lo cc (by cases hcc;rfl))
    exact DZ (x:=⟨y.k,y.a,y.b,y.c, !y.on,y.kd,y.d,y.vs⟩) mm
   |false=>
    cases c4:pk b q 30==3 with
    |true=>
     have e:=a2N b n p q (snK (1+pk b p 2) (d4L b (p+1)) 1) y 0
     have mm:=a5 (f:=46) t71 (fn:=f46) (by kernel_rfl) (by kernel_rfl) e (by simp only[c1,c2,c3,c4,o1,o2,ga,bS];omega) (by simp) (fun cc hcc=>lo cc (by cases hcc;rfl))
     exact QW (x:=⟨y.k,y.a,y.b,y.c,y.on,y.kd,(vcL b (q+1)).1,y.vs⟩) mm
    |false=>
     have e:=a2O b n p q (snK (1+pk b p 2) (d4L b (p+1)) 1) y 0
     have mm:=a5 (f:=46) t71 (fn:=f46) (by kernel_rfl) (by kernel_rfl) e (by simp only[c1,c2,c3,c4,o1,o2,ga,bS];omega) (by simp) (fun cc hcc=>lo cc (by cases hcc;rfl))
     exact DZ (x:=y) mm
noncomputable def T72:List bF:=[⟨46,[0],GF⟩]++T71
theorem e72:a8 Tryz.prog T72:=by
 refine a8.append ?_ e71
 intro e he
 simp only[List.mem_cons,List.not_mem_nil,or_false]at he
 subst he;exact m46
theorem t72:bN Tryz.prog (aB T72):=aP e72
end
section
theorem g7 {b:List Int} (h:aZ b=true) (n:Nat):aZ (b.take n)=true:=by
 unfold aZ at h⊢
 rw[List.all_eq_true]at h⊢
 exact fun x hx=>h x (List.mem_of_mem_take hx)
theorem U0 (b:List Int) {p:Int}:(vcL b p).1.length≤4∧p≤(vcL b p).2∧(vcL b p).2≤p+19:=by
 unfold vcL
 cases pk b (p+16) 40==0 with
 |true=>rw[cond_true];exact⟨by show 3≤4;omega,by dsimp only;omega,by dsimp only;omega⟩
 |false=>
  rw[cond_false]
  cases pk b (p+16) 40==1 with
  |true=>rw[cond_true];exact⟨by dsimp only;rw[List.length_set];exact Nat.le_refl 4,by dsimp only;omega,by dsimp only;omega⟩
  |false=>rw[cond_false];exact⟨Nat.le_refl 4,by dsimp only;omega,by dsimp only;omega⟩
theorem RI (b:List Int) (p:Int):p≤(nmV b p).2∧(nmV b p).2≤p+3:=by
 unfold nmV
 cases pk b p 10==0 with
 |true=>rw[cond_true];dsimp only;omega
 |false=>
  rw[cond_false]
  cases pk b p 10==1 with
  |true=>rw[cond_true];dsimp only;omega
  |false=>
   rw[cond_false]
   cases pk b p 10==2 with
   |false=>rw[cond_false];dsimp only;omega
   |true=>
    rw[cond_true]
    cases pk b (p+1) 5==0
    ·rw[cond_false];dsimp only;omega
    ·rw[cond_true];dsimp only;omega
def PK.sz (x:PK):Prop:=x.a.length=8∧x.b.length=8∧x.c.length=8∧x.d.length≤4
theorem t0 (b:List Int) {p:Int} (h0:0≤p):(kdr b p).1.sz∧p≤(kdr b p).2∧(kdr b p).2≤p+130:=by
 obtain⟨i1,i2,i3⟩:=E0 b h0
 obtain⟨g4,ga,gb,gc⟩:=gG i1
 unfold kdr kdT
 generalize (kdS b p).1=y at*
 generalize (kdS b p).2=q at*
 cases pk b q 30==0 with
 |true=>
  have:=RI b (q+2)
  rw[cond_true]
  exact⟨⟨by dsimp only;rw[List.length_set];exact ga,gb,gc,g4⟩,by dsimp only;omega,by dsimp only;omega⟩
 |false=>
  rw[cond_false]
  cases pk b q 30==1 with
  |true=>rw[cond_true];exact⟨⟨ga,gb,gc,g4⟩,by dsimp only;omega,by dsimp only;omega⟩
  |false=>
   rw[cond_false]
   cases pk b q 30==2 with
   |true=>rw[cond_true];exact⟨⟨ga,gb,gc,g4⟩,by dsimp only;omega,by dsimp only;omega⟩
   |false=>
    rw[cond_false]
    cases pk b q 30==3 with
    |true=>
     have:=U0 b (p:=q+1)
     rw[cond_true];exact⟨⟨ga,gb,gc,this.1⟩,by dsimp only;omega,by dsimp only;omega⟩
    |false=>rw[cond_false];exact⟨⟨ga,gb,gc,g4⟩,by dsimp only;omega,by dsimp only;omega⟩
def dkR (b:List Int):PK:=(kdr (b.take 2000) 0).1
def QS (b:List Int):Int:=pk (b.take 2000) (kdr (b.take 2000) 0).2 8+pk (b.take 2000) ((kdr (b.take 2000) 0).2+1) 24/23*8
def v7:aQ:=fun args h=>
 match args,h with
 |[.c (.view _ (.ints .u8 b) n 1 _)],[]=>
  some (.tup [.agg (dkR b).vcells,.c (.int .i64 (QS b))],[],[aZ b])
 |_,_=>none
end
section
theorem PC {P:Program} {f:FuncId} {args:List AV} {x:PK} (hm:bE P f args [] (.agg x.cells) [.live (.ints .i64 x.a),.live (.ints .i64 x.b),.live (.bools x.c),.live (.ints .i64 x.d)]):bE P f args [] (.agg x.vcells) []:=
 hm.views (o:=[decide (x.a.length=x.a.length),decide (x.b.length=x.b.length),decide (x.c.length=x.c.length),decide (x.d.length=x.d.length)]) rfl (by simp)
def BT:aQ:=fun args h=>
 match args,h with
 |[.agg [.int .i64 k,.view _ (.ints .i64 a) n1 1 _,.view _ (.ints .i64 b) n2 1 _,.view _ (.bools c) n3 1 _,.bool on,.int .i64 kd,.view _ (.ints .i64 d) n4 1 _,.int .i64 vs],.c (.int .i64 x)],[]=>
  some (.agg (shR ⟨k,a,b,c,on,kd,d,vs⟩ x).vcells,[],[decide (a.length=8),decide (b.length=8),decide (c.length=8),bet kd 1 2,aC d 4,bet x 0 7])
 |_,_=>none
theorem a7X:aV Tryz.prog 105 BT:=by
 intro args h res h' o hnorm he ho
 unfold BT at he
 split at he
 case h_2=>cases he
 rename_i k nl1 a n1 cap1 nl2 b n2 cap2 nl3 c n3 cap3 on kd nl4 d n4 cap4 vs x
 simp only[Option.some.injEq,Prod.mk.injEq]at he
 obtain⟨rfl,rfl,rfl⟩:=he
 simp only[List.mem_cons,List.not_mem_nil,or_false,forall_eq_or_imp,forall_eq,decide_eq_true_eq]at ho
 obtain⟨o1,o2,o3,o4,o5,o6⟩:=ho
 exact PC (m52 _ _ _ _ _ hnorm rfl (by simp[o1,o2,o3,o4,o5,o6]))
def s5:aQ:=fun args h=>
 match args,h with
 |[.agg [.int .i64 k,.view _ (.ints .i64 a) n1 1 _,.view _ (.ints .i64 b) n2 1 _,.view _ (.bools c) n3 1 _,.bool on,.int .i64 kd,.view _ (.ints .i64 d) n4 1 _,.int .i64 vs]],[]=>
  some (.agg (bU ⟨k,a,b,c,on,kd,d,vs⟩).vcells,[],[decide (a.length≤274877906944),decide (d.length≤274877906944)])
 |_,_=>none
theorem a7U:aV Tryz.prog 64 s5:=by
 intro args h res h' o hnorm he ho
 unfold s5 at he
 split at he
 case h_2=>cases he
 rename_i k nl1 a n1 cap1 nl2 b n2 cap2 nl3 c n3 cap3 on kd nl4 d n4 cap4 vs
 simp only[Option.some.injEq,Prod.mk.injEq]at he
 obtain⟨rfl,rfl,rfl⟩:=he
 simp only[List.mem_cons,List.not_mem_nil,or_false,forall_eq_or_imp,forall_eq,decide_eq_true_eq]at ho
 obtain⟨o1,o2⟩:=ho
 exact PC (m18 _ _ _ _ _ hnorm rfl (by simp[o1,o2]))
noncomputable def T73:List bF:=[⟨105,[],nm BT⟩,⟨64,[],nm s5⟩]++T72
theorem e73:a8 Tryz.prog T73:=by
 refine a8.append ?_ e72
 intro e he
 simp only[List.mem_cons,List.not_mem_nil,or_false]at he
 rcases he with rfl|rfl
 ·exact a7X.ok
 ·exact a7U.ok
theorem t73:bN Tryz.prog (aB T73):=aP e73
theorem VP (b:List Int):aG tt (aB T73) ([]) 100 Tryz.f16 [.c (.view none (.ints .u8 b) b.length 1 none)] [] [(0,true),(0,true),(0,true)]=
  some ⟨.tup [.agg [.int .i64 (kdr (List.take 2000 b) ((kdr (List.take 2000 b) 0).snd+1)).1.1,.view none (.ints .i64 (kdr (List.take 2000 b) ((kdr (List.take 2000 b) 0).snd+1)).1.2) (kdr (List.take 2000 b) ((kdr (List.take 2000 b) 0).snd+1)).1.2.length 1 none,.view none (.ints .i64 (kdr (List.take 2000 b) ((kdr (List.take 2000 b) 0).snd+1)).1.3) (kdr (List.take 2000 b) ((kdr (List.take 2000 b) 0).snd+1)).1.3.length 1 none,.view none (.bools (kdr (List.take 2000 b) ((kdr (List.take 2000 b) 0).snd+1)).1.4) (kdr (List.take 2000 b) ((kdr (List.take 2000 b) 0).snd+1)).1.4.length 1 none,.bool (kdr (List.take 2000 b) ((kdr (List.take 2000 b) 0).snd+1)).1.5,.int .i64 (kdr (List.take 2000 b) ((kdr (List.take 2000 b) 0).snd+1)).1.6,.view none (.ints .i64 (kdr (List.take 2000 b) ((kdr (List.take 2000 b) 0).snd+1)).1.7) (kdr (List.take 2000 b) ((kdr (List.take 2000 b) 0).snd+1)).1.7.length 1 none,.int .i64 (kdr (List.take 2000 b) ((kdr (List.take 2000 b) 0).snd+1)).1.8],.c (.int .i64 (kdV (List.take 2000 b) (kdr (List.take 2000 b) ((kdr (List.take 2000 b) 0).snd+1)).snd)),.c (.view none (.ints .i64 (vcL (List.take 2000 b) ((kdr (List.take 2000 b) ((kdr (List.take 2000 b) 0).snd+1)).snd+2)).fst) (vcL (List.take 2000 b) ((kdr (List.take 2000 b) ((kdr (List.take 2000 b) 0).snd+1)).snd+2)).fst.length 1 none)],[],(decide ((List.take 2000 b).length=(List.take 2000 b).length)&&(aZ (List.take 2000 b)&&(((kdr (List.take 2000 b) 0).1.5)&&(((kdr (List.take 2000 b) 0).1.5)&&(decide ((List.take 2000 b).length=(List.take 2000 b).length)&&(aZ (List.take 2000 b)&&(decide (0≤(kdr (List.take 2000 b) 0).snd)&&(decide ((kdr (List.take 2000 b) 0).snd≤1000000)&&(((kdr (List.take 2000 b) 0).1.5)&&((bif (kdr (List.take 2000 b) 0).1.5 then decide (pk (List.take 2000 b) (kdr (List.take 2000 b) 0).snd 3>0)else false)&&(decide ((kdr (List.take 2000 b) 0).1.2.length≤274877906944)&&(decide ((kdr (List.take 2000 b) 0).1.7.length≤274877906944)&&(((↑(bU {k:=(kdr (List.take 2000 b) 0).1.1,a:=(kdr (List.take 2000 b) 0).1.2,b:=(kdr (List.take 2000 b) 0).1.3,c:=(kdr (List.take 2000 b) 0).1.4,on:=(kdr (List.take 2000 b) 0).1.5,kd:=(kdr (List.take 2000 b) 0).1.6,d:=(kdr (List.take 2000 b) 0).1.7,vs:=(kdr (List.take 2000 b) 0).1.8}).b.length:Int)==0)&&(decide ((List.take 2000 b).length=(List.take 2000 b).length)&&(aZ (List.take 2000 b)&&(decide (0≤(kdr (List.take 2000 b) 0).snd+1)&&(decide ((kdr (List.take 2000 b) 0).snd+1≤700000)&&(decide ((List.take 2000 b).length=(List.take 2000 b).length)&&(aZ (List.take 2000 b)&&(decide (0≤(kdr (List.take 2000 b) ((kdr (List.take 2000 b) 0).snd+1)).snd)&&(decide ((kdr (List.take 2000 b) ((kdr (List.take 2000 b) 0).snd+1)).snd≤900000)&&(decide ((List.take 2000 b).length=(List.take 2000 b).length)&&(aZ (List.take 2000 b)&&(decide (0≤(kdr (List.take 2000 b) ((kdr (List.take 2000 b) 0).snd+1)).snd+2)&&((decide ((kdr (List.take 2000 b) ((kdr (List.take 2000 b) 0).snd+1)).snd+2≤900000))&&true))))))))))))))))))))))))),[]⟩:=by kernel_rfl
theorem VQ (b:List Int):aG tt (aB T73) ([]) 100 Tryz.f16 [.c (.view none (.ints .u8 b) b.length 1 none)] [] [(0,true),(0,true),(0,false)]=
  some ⟨.tup [.agg [.int .i64 (bU {k:=(kdr (List.take 2000 b) 0).1.1,a:=(kdr (List.take 2000 b) 0).1.2,b:=(kdr (List.take 2000 b) 0).1.3,c:=(kdr (List.take 2000 b) 0).1.4,on:=(kdr (List.take 2000 b) 0).1.5,kd:=(kdr (List.take 2000 b) 0).1.6,d:=(kdr (List.take 2000 b) 0).1.7,vs:=(kdr (List.take 2000 b) 0).1.8}).k,.view none (.ints .i64 (bU {k:=(kdr (List.take 2000 b) 0).1.1,a:=(kdr (List.take 2000 b) 0).1.2,b:=(kdr (List.take 2000 b) 0).1.3,c:=(kdr (List.take 2000 b) 0).1.4,on:=(kdr (List.take 2000 b) 0).1.5,kd:=(kdr (List.take 2000 b) 0).1.6,d:=(kdr (List.take 2000 b) 0).1.7,vs:=(kdr (List.take 2000 b) 0).1.8}).a) (bU {k:=(kdr (List.take 2000 b) 0).1.1,a:=(kdr (List.take 2000 b) 0).1.2,b:=(kdr (List.take 2000 b) 0).1.3,c:=(kdr (List.take 2000 b) 0).1.4,on:=(kdr (List.take 2000 b) 0).1.5,kd:=(kdr (List.take 2000 b) 0).1.6,d:=(kdr (List.take 2000 b) 0).1.7,vs:=(kdr (List.take 2000 b) 0).1.8}).a.length 1 none,.view none (.ints .i64 (bU {k:=(kdr (List.take 2000 b) 0).1.1,a:=(kdr (List.take 2000 b) 0).1.2,b:=(kdr (List.take 2000 b) 0).1.3,c:=(kdr (List.take 2000 b) 0).1.4,on:=(kdr (List.take 2000 b) 0).1.5,kd:=(kdr (List.take 2000 b) 0).1.6,d:=(kdr (List.take 2000 b) 0).1.7,vs:=(kdr (List.take 2000 b) 0).1.8}).b) (bU {k:=(kdr (List.take 2000 b) 0).1.1,a:=(kdr (List.take 2000 b) 0).1.2,b:=(kdr (List.take 2000 b) 0).1.3,c:=(kdr (List.take 2000 b) 0).1.4,on:=(kdr (List.take 2000 b) 0).1.5,kd:=(kdr (List.take 2000 b) 0).1.6,d:=(kdr (List.take 2000 b) 0).1.7,vs:=(kdr (List.take 2000 b) 0).1.8}).b.length 1 none,.view none (.bools (bU {k:=(kdr (List.take 2000 b) 0).1.1,a:=(kdr (List.take 2000 b) 0).1.2,b:=(kdr (List.take 2000 b) 0).1.3,c:=(kdr (List.take 2000 b) 0).1.4,on:=(kdr (List.take 2000 b) 0).1.5,kd:=(kdr (List.take 2000 b) 0).1.6,d:=(kdr (List.take 2000 b) 0).1.7,vs:=(kdr (List.take 2000 b) 0).1.8}).c) (bU {k:=(kdr (List.take 2000 b) 0).1.1,a:=(kdr (List.take 2000 b) 0).1.2,b:=(kdr (List.take 2000 b) 0).1.3,c:=(kdr (List.take 2000 b) 0).1.4,on:=(kdr (List.take 2000 b) 0).1.5,kd:=(kdr (List.take 2000 b) 0).1.6,d:=(kdr (List.take 2000 b) 0).1.7,vs:=(kdr (List.take 2000 b) 0).1.8}).c.length 1 none,.bool (bU {k:=(kdr (List.take 2000 b) 0).1.1,a:=(kdr (List.take 2000 b) 0).1.2,b:=(kdr (List.take 2000 b) 0).1.3,c:=(kdr (List.take 2000 b) 0).1.4,on:=(kdr (List.take 2000 b) 0).1.5,kd:=(kdr (List.take 2000 b) 0).1.6,d:=(kdr (List.take 2000 b) 0).1.7,vs:=(kdr (List.take 2000 b) 0).1.8}).on,.int .i64 (bU {k:=(kdr (List.take 2000 b) 0).1.1,a:=(kdr (List.take 2000 b) 0).1.2,b:=(kdr (List.take 2000 b) 0).1.3,c:=(kdr (List.take 2000 b) 0).1.4,on:=(kdr (List.take 2000 b) 0).1.5,kd:=(kdr (List.take 2000 b) 0).1.6,d:=(kdr (List.take 2000 b) 0).1.7,vs:=(kdr (List.take 2000 b) 0).1.8}).kd,.view none (.ints .i64 (bU {k:=(kdr (List.take 2000 b) 0).1.1,a:=(kdr (List.take 2000 b) 0).1.2,b:=(kdr (List.take 2000 b) 0).1.3,c:=(kdr (List.take 2000 b) 0).1.4,on:=(kdr (List.take 2000 b) 0).1.5,kd:=(kdr (List.take 2000 b) 0).1.6,d:=(kdr (List.take 2000 b) 0).1.7,vs:=(kdr (List.take 2000 b) 0).1.8}).d) (bU {k:=(kdr (List.take 2000 b) 0).1.1,a:=(kdr (List.take 2000 b) 0).1.2,b:=(kdr (List.take 2000 b) 0).1.3,c:=(kdr (List.take 2000 b) 0).1.4,on:=(kdr (List.take 2000 b) 0).1.5,kd:=(kdr (List.take 2000 b) 0).1.6,d:=(kdr (List.take 2000 b) 0).1.7,vs:=(kdr (List.take 2000 b) 0).1.8}).d.length 1 none,.int .i64 (bU {k:=(kdr (List.take 2000 b) 0).1.1,a:=(kdr (List.take 2000 b) 0).1.2,b:=(kdr (List.take 2000 b) 0).1.3,c:=(kdr (List.take 2000 b) 0).1.4,on:=(kdr (List.take 2000 b) 0).1.5,kd:=(kdr (List.take 2000 b) 0).1.6,d:=(kdr (List.take 2000 b) 0).1.7,vs:=(kdr (List.take 2000 b) 0).1.8}).vs],.c (.int .i64 (kdV (List.take 2000 b) ((kdr (List.take 2000 b) 0).snd+1))),.c (.view none (.ints .i64 (vcL (List.take 2000 b) ((kdr (List.take 2000 b) 0).snd+1+2)).fst) (vcL (List.take 2000 b) ((kdr (List.take 2000 b) 0).snd+1+2)).fst.length 1 none)],[],(decide ((List.take 2000 b).length=(List.take 2000 b).length)&&(aZ (List.take 2000 b)&&(((kdr (List.take 2000 b) 0).1.5)&&(((kdr (List.take 2000 b) 0).1.5)&&(decide ((List.take 2000 b).length=(List.take 2000 b).length)&&(aZ (List.take 2000 b)&&(decide (0≤(kdr (List.take 2000 b) 0).snd)&&(decide ((kdr (List.take 2000 b) 0).snd≤1000000)&&(((kdr (List.take 2000 b) 0).1.5)&&((bif (kdr (List.take 2000 b) 0).1.5 then decide (pk (List.take 2000 b) (kdr (List.take 2000 b) 0).snd 3>0)else false)&&(decide ((kdr (List.take 2000 b) 0).1.2.length≤274877906944)&&(decide ((kdr (List.take 2000 b) 0).1.7.length≤274877906944)&&((!(↑(bU {k:=(kdr (List.take 2000 b) 0).1.1,a:=(kdr (List.take 2000 b) 0).1.2,b:=(kdr (List.take 2000 b) 0).1.3,c:=(kdr (List.take 2000 b) 0).1.4,on:=(kdr (List.take 2000 b) 0).1.5,kd:=(kdr (List.take 2000 b) 0).1.6,d:=(kdr (List.take 2000 b) 0).1.7,vs:=(kdr (List.take 2000 b) 0).1.8}).b.length:Int)==0)&&(decide ((List.take 2000 b).length=(List.take 2000 b).length)&&(aZ (List.take 2000 b)&&(decide (0≤(kdr (List.take 2000 b) 0).snd+1)&&(decide ((kdr (List.take 2000 b) 0).snd+1≤900000)&&(decide ((List.take 2000 b).length=(List.take 2000 b).length)&&(aZ (List.take 2000 b)&&(decide (0≤(kdr (List.take 2000 b) 0).snd+1+2)&&((decide ((kdr (List.take 2000 b) 0).snd+1+2≤900000))&&true))))))))))))))))))))),[]⟩:=by kernel_rfl
theorem VS (b:List Int):aG tt (aB T73) ([]) 100 Tryz.f16 [.c (.view none (.ints .u8 b) b.length 1 none)] [] [(0,true),(0,false),(0,false)]=
  some ⟨.tup [.agg [.int .i64 (kdr (List.take 2000 b) 0).1.1,.view none (.ints .i64 (kdr (List.take 2000 b) 0).1.2) (kdr (List.take 2000 b) 0).1.2.length 1 none,.view none (.ints .i64 (kdr (List.take 2000 b) 0).1.3) (kdr (List.take 2000 b) 0).1.3.length 1 none,.view none (.bools (kdr (List.take 2000 b) 0).1.4) (kdr (List.take 2000 b) 0).1.4.length 1 none,.bool (kdr (List.take 2000 b) 0).1.5,.int .i64 (kdr (List.take 2000 b) 0).1.6,.view none (.ints .i64 (kdr (List.take 2000 b) 0).1.7) (kdr (List.take 2000 b) 0).1.7.length 1 none,.int .i64 (kdr (List.take 2000 b) 0).1.8],.c (.int .i64 (kdV (List.take 2000 b) ((kdr (List.take 2000 b) 0).snd+1))),.c (.view none (.ints .i64 (vcL (List.take 2000 b) ((kdr (List.take 2000 b) 0).snd+1+2)).fst) (vcL (List.take 2000 b) ((kdr (List.take 2000 b) 0).snd+1+2)).fst.length 1 none)],[],(decide ((List.take 2000 b).length=(List.take 2000 b).length)&&(aZ (List.take 2000 b)&&(((kdr (List.take 2000 b) 0).1.5)&&(((kdr (List.take 2000 b) 0).1.5)&&(decide ((List.take 2000 b).length=(List.take 2000 b).length)&&(aZ (List.take 2000 b)&&(decide (0≤(kdr (List.take 2000 b) 0).snd)&&(decide ((kdr (List.take 2000 b) 0).snd≤1000000)&&(((kdr (List.take 2000 b) 0).1.5)&&((!bif (kdr (List.take 2000 b) 0).1.5 then decide (pk (List.take 2000 b) (kdr (List.take 2000 b) 0).snd 3>0)else false)&&((!(↑(kdr (List.take 2000 b) 0).1.3.length:Int)==0)&&(decide ((List.take 2000 b).length=(List.take 2000 b).length)&&(aZ (List.take 2000 b)&&(decide (0≤(kdr (List.take 2000 b) 0).snd+1)&&(decide ((kdr (List.take 2000 b) 0).snd+1≤900000)&&(decide ((List.take 2000 b).length=(List.take 2000 b).length)&&(aZ (List.take 2000 b)&&(decide (0≤(kdr (List.take 2000 b) 0).snd+1+2)&&((decide ((kdr (List.take 2000 b) 0).snd+1+2≤900000))&&true))))))))))))))))))),[]⟩:=by kernel_rfl
theorem VT (b:List Int):aG tt (aB T73) ([]) 100 Tryz.f16 [.c (.view none (.ints .u8 b) b.length 1 none)] [] [(0,false),(1,false)]=
  some ⟨.tup [.agg [.int .i64 (kdr (List.take 2000 b) 0).1.1,.view none (.ints .i64 (kdr (List.take 2000 b) 0).1.2) (kdr (List.take 2000 b) 0).1.2.length 1 none,.view none (.ints .i64 (kdr (List.take 2000 b) 0).1.3) (kdr (List.take 2000 b) 0).1.3.length 1 none,.view none (.bools (kdr (List.take 2000 b) 0).1.4) (kdr (List.take 2000 b) 0).1.4.length 1 none,.bool (kdr (List.take 2000 b) 0).1.5,.int .i64 (kdr (List.take 2000 b) 0).1.6,.view none (.ints .i64 (kdr (List.take 2000 b) 0).1.7) (kdr (List.take 2000 b) 0).1.7.length 1 none,.int .i64 (kdr (List.take 2000 b) 0).1.8],.c (.int .i64 (kdV (List.take 2000 b) (kdr (List.take 2000 b) 0).snd)),.c (.view none (.ints .i64 (vcL (List.take 2000 b) ((kdr (List.take 2000 b) 0).snd+2)).fst) (vcL (List.take 2000 b) ((kdr (List.take 2000 b) 0).snd+2)).fst.length 1 none)],[],(decide ((List.take 2000 b).length=(List.take 2000 b).length)&&(aZ (List.take 2000 b)&&((!(kdr (List.take 2000 b) 0).1.5)&&((!(kdr (List.take 2000 b) 0).1.5)&&((!(kdr (List.take 2000 b) 0).1.5)&&((!(kdr (List.take 2000 b) 0).1.5)&&((!(↑(kdr (List.take 2000 b) 0).1.3.length:Int)==0)&&(decide ((List.take 2000 b).length=(List.take 2000 b).length)&&(aZ (List.take 2000 b)&&(decide (0≤(kdr (List.take 2000 b) 0).snd)&&(decide ((kdr (List.take 2000 b) 0).snd≤900000)&&(decide ((List.take 2000 b).length=(List.take 2000 b).length)&&(aZ (List.take 2000 b)&&(decide (0≤(kdr (List.take 2000 b) 0).snd+2)&&((decide ((kdr (List.take 2000 b) 0).snd+2≤900000))&&true))))))))))))))),[]⟩:=by kernel_rfl
end
section
def dkQ (b:List Int):PK×Int:=bif (dkR b).on then(bif decide (pk (b.take 2000) (kdr (b.take 2000) 0).2 3>0)then(bif ((bU (dkR b)).b.length:Int)==0 then kdr (b.take 2000) ((kdr (b.take 2000) 0).2+1)else(bU (dkR b),(kdr (b.take 2000) 0).2+1))else(dkR b,(kdr (b.take 2000) 0).2+1))else(dkR b,(kdr (b.take 2000) 0).2)
def dkK (b:List Int):Int:=kdV (b.take 2000) (dkQ b).2
def dkD (b:List Int):List Int:=(vcL (b.take 2000) ((dkQ b).2+2)).1
def G7:aQ:=fun args h=>
 match args,h with
 |[.c (.view _ (.ints .u8 b) n 1 _)],[]=>
  some (.tup [.agg (dkQ b).1.vcells,.c (.int .i64 (dkK b)),.c (.view none (.ints .i64 (dkD b)) (dkD b).length 1 none)],[],[aZ b])
 |_,_=>none
theorem m34:aV Tryz.prog 16 G7:=by
 intro args h res h' o hnorm he ho
 unfold G7 at he
 split at he
 case h_2=>cases he
 rename_i nl b n cap
 simp only[Option.some.injEq,Prod.mk.injEq]at he
 obtain⟨rfl,rfl,rfl⟩:=he
 simp only[List.mem_cons,List.not_mem_nil,or_false,forall_eq_or_imp,forall_eq,decide_eq_true_eq]at ho
 have o1:=ho
 simp only[bG,AV.norm,bI,aJ.norm,Con.size,List.cons.injEq,AV.c.injEq,AV.agg.injEq,aJ.view.injEq,aN,true_and,and_true]at hnorm
 obtain⟨rfl,rfl,rfl⟩:=hnorm
 obtain⟨⟨z1,z2,z3,z4⟩,s2,s3⟩:=t0 (b.take 2000) (p:=0) (by omega)
 obtain⟨-,y2,y3⟩:=t0 (b.take 2000) (p:=(kdr (b.take 2000) 0).2+1) (by omega)
 have n8:(((8:Nat):Int)==0)=false:=rfl
 unfold dkK dkD
 have q: ∀x,dkQ b=x→dkQ b=x:=fun _ h=>h
 cases ho:(dkR b).on with
 |false=>
  have ho':(kdr (b.take 2000) 0).1.on=false:=ho
  have e1:dkQ b=(dkR b,(kdr (b.take 2000) 0).2):=by unfold dkQ;rw[ho];rfl
  rw[e1]
  exact a5 t73 (by kernel_rfl) (by kernel_rfl) (VT b) (by simp only[g7 o1,ho',z2,n8,bS];omega) (by simp) (fun cc _=>aF.nil)
 |true=>
  have ho':(kdr (b.take 2000) 0).1.on=true:=ho
  cases hp:decide (pk (b.take 2000) (kdr (b.take 2000) 0).2 3>0)with
  |false=>
   have e1:dkQ b=(dkR b,(kdr (b.take 2000) 0).2+1):=by unfold dkQ;rw[ho,hp];rfl
   rw[e1]
   exact a5 t73 (by kernel_rfl) (by kernel_rfl) (VS b) (by simp only[g7 o1,ho',hp,z2,n8,bS];omega) (by simp) (fun cc _=>aF.nil)
  |true=>
   cases hr:((bU (dkR b)).b.length:Int)==0 with
   |true=>
    have hr2:(((bU (kdr (b.take 2000) 0).1).b.length:Int)==0)=true:=hr
    have e1:dkQ b=kdr (b.take 2000) ((kdr (b.take 2000) 0).2+1):=by unfold dkQ;rw[ho,hp,hr];rfl
    rw[e1]
    exact a5 t73 (by kernel_rfl) (by kernel_rfl) (VP b) (by simp only[g7 o1,ho',hp,hr2,z1,bS];omega) (by simp) (fun cc _=>aF.nil)
   |false=>
    have hr2:(((bU (kdr (b.take 2000) 0).1).b.length:Int)==0)=false:=hr
    have e1:dkQ b=(bU (dkR b),(kdr (b.take 2000) 0).2+1):=by unfold dkQ;rw[ho,hp,hr];rfl
    rw[e1]
    exact a5 t73 (by kernel_rfl) (by kernel_rfl) (VQ b) (by simp only[g7 o1,ho',hp,hr2,z1,bS];omega) (by simp) (fun cc _=>aF.nil)
noncomputable def T74:List bF:=[⟨16,[],nm G7⟩]++T73
theorem e74:a8 Tryz.prog T74:=by
 refine a8.append ?_ e73
 intro e he
 simp only[List.mem_cons,List.not_mem_nil,or_false]at he
 subst he;exact m34.ok
theorem t74:bN Tryz.prog (aB T74):=aP e74
end
section
noncomputable abbrev f21:=Tryz.f23
noncomputable def I21 (a b:List Int) (i:Int):St:=bA f21.ntmps [(0,.c (.view none (.ints .i64 a) a.length 1 none)),(1,.c (.view none (.ints .i64 b) b.length 1 none)),(5,.c (.int .i64 i))] []
noncomputable def X21:St:=bA f21.ntmps [] []
noncomputable def Y21:St:=bA f21.ntmps [(4,.c (.bool false))] []
theorem YK (a b:List Int) (i:Int):aH 0 (aA f21 0) (aD f21 0) (aK tt (aB T74) ([]) 0 100 (a6 0 (a7 f21)) (I21 a b i) [(0,true),(0,true)])=
  some (.ret,(decide (i<(↑a.length:Int))&&(decide (0≤i)&&(decide (i<(↑a.length:Int))&&(decide (i.toNat<a.length)&&(decide (0≤i)&&(decide (i<(↑b.length:Int))&&(decide (i.toNat<b.length)&&((a.getD i.toNat 0 !=b.getD i.toNat 0)&&true)))))))),[],Y21):=by kernel_rfl
theorem YL (a b:List Int) (i:Int):aH 0 (aA f21 0) (aD f21 0) (aK tt (aB T74) ([]) 0 100 (a6 0 (a7 f21)) (I21 a b i) [(0,true),(0,false)])=
  some (.normal,(decide (i<(↑a.length:Int))&&(decide (0≤i)&&(decide (i<(↑a.length:Int))&&(decide (i.toNat<a.length)&&(decide (0≤i)&&(decide (i<(↑b.length:Int))&&(decide (i.toNat<b.length)&&((!a.getD i.toNat 0 !=b.getD i.toNat 0)&&true)))))))),[],I21 a b (IntKind.i64.wrap (i+1))):=by kernel_rfl
theorem YM (a b:List Int) (i:Int):aH 0 (aA f21 0) (aD f21 0) (aK tt (aB T74) ([]) 0 100 (a6 0 (a7 f21)) (I21 a b i) [(0,false)])=
  some (.exit 0,((!decide (i<(↑a.length:Int)))&&true),[],X21):=by kernel_rfl
theorem a1K (a b:List Int) (lcv:List (Nat×LC)):aG tt (aB T74) (lcv) 100 f21 [.c (.view none (.ints .i64 a) a.length 1 none),.c (.view none (.ints .i64 b) b.length 1 none)] [] [(0,true)]=
  some ⟨.c (.bool false),[],(((↑a.length:Int)!=(↑b.length:Int))&&true),[]⟩:=by kernel_rfl
theorem a1L (a b:List Int):aG tt (aB T74) ([(0,⟨aA f21 0,I21 a b 0,.normal,X21⟩)]) 100 f21 [.c (.view none (.ints .i64 a) a.length 1 none),.c (.view none (.ints .i64 b) b.length 1 none)] [] [(0,false)]=
  some ⟨.c (.bool true),[],((!(↑a.length:Int)!=(↑b.length:Int))&&true),[I21 a b 0=I21 a b 0]⟩:=by kernel_rfl
theorem VF (a b:List Int):aG tt (aB T74) ([(0,⟨aA f21 0,I21 a b 0,.ret,Y21⟩)]) 100 f21 [.c (.view none (.ints .i64 a) a.length 1 none),.c (.view none (.ints .i64 b) b.length 1 none)] [] [(0,false)]=
  some ⟨.c (.bool false),[],((!(↑a.length:Int)!=(↑b.length:Int))&&true),[I21 a b 0=I21 a b 0]⟩:=by kernel_rfl
noncomputable abbrev f92:=Tryz.f79
noncomputable def I92 (a b:List Bool) (i:Int):St:=bA f92.ntmps [(0,.c (.view none (.bools a) a.length 1 none)),(1,.c (.view none (.bools b) b.length 1 none)),(5,.c (.int .i64 i))] []
noncomputable def X92:St:=bA f92.ntmps [] []
noncomputable def Y92:St:=bA f92.ntmps [(4,.c (.bool false))] []
theorem a07 (a b:List Bool) (i:Int):aH 0 (aA f92 0) (aD f92 0) (aK tt (aB T74) ([]) 0 100 (a6 0 (a7 f92)) (I92 a b i) [(0,true),(0,true)])=
  some (.ret,(decide (i<(↑a.length:Int))&&(decide (0≤i)&&(decide (i<(↑a.length:Int))&&(decide (i.toNat<a.length)&&(decide (0≤i)&&(decide (i<(↑b.length:Int))&&(decide (i.toNat<b.length)&&((!a.getD i.toNat false==b.getD i.toNat false)&&true)))))))),[],Y92):=by kernel_rfl
theorem a08 (a b:List Bool) (i:Int):aH 0 (aA f92 0) (aD f92 0) (aK tt (aB T74) ([]) 0 100 (a6 0 (a7 f92)) (I92 a b i) [(0,true),(0,false)])=
  some (.normal,(decide (i<(↑a.length:Int))&&(decide (0≤i)&&(decide (i<(↑a.length:Int))&&(decide (i.toNat<a.length)&&(decide (0≤i)&&(decide (i<(↑b.length:Int))&&(decide (i.toNat<b.length)&&((!!a.getD i.toNat false==b.getD i.toNat false)&&true)))))))),[],I92 a b (IntKind.i64.wrap (i+1))):=by kernel_rfl
theorem a09 (a b:List Bool) (i:Int):aH 0 (aA f92 0) (aD f92 0) (aK tt (aB T74) ([]) 0 100 (a6 0 (a7 f92)) (I92 a b i) [(0,false)])=
  some (.exit 0,((!decide (i<(↑a.length:Int)))&&true),[],X92):=by kernel_rfl
theorem a3J (a b:List Bool) (lcv:List (Nat×LC)):aG tt (aB T74) (lcv) 100 f92 [.c (.view none (.bools a) a.length 1 none),.c (.view none (.bools b) b.length 1 none)] [] [(0,true)]=
  some ⟨.c (.bool false),[],(((↑a.length:Int)!=(↑b.length:Int))&&true),[]⟩:=by kernel_rfl
theorem a3K (a b:List Bool):aG tt (aB T74) ([(0,⟨aA f92 0,I92 a b 0,.normal,X92⟩)]) 100 f92 [.c (.view none (.bools a) a.length 1 none),.c (.view none (.bools b) b.length 1 none)] [] [(0,false)]=
  some ⟨.c (.bool true),[],((!(↑a.length:Int)!=(↑b.length:Int))&&true),[I92 a b 0=I92 a b 0]⟩:=by kernel_rfl
theorem W6 (a b:List Bool):aG tt (aB T74) ([(0,⟨aA f92 0,I92 a b 0,.ret,Y92⟩)]) 100 f92 [.c (.view none (.bools a) a.length 1 none),.c (.view none (.bools b) b.length 1 none)] [] [(0,false)]=
  some ⟨.c (.bool false),[],((!(↑a.length:Int)!=(↑b.length:Int))&&true),[I92 a b 0=I92 a b 0]⟩:=by kernel_rfl
def uS (a b:List Int) (i:Nat):Bool:= !(a.getD i 0 !=b.getD i 0)
def lkI (a b:List Int):Bool:=((a.length:Int)==(b.length:Int))&&cC (uS a b) a.length 0
theorem l21 (a b:List Int) (hl:a.length=b.length) (hn:a.length≤274877906944):
  aW Tryz.prog 0 (.block 0 (.loop (a6 0 (a7 f21)))) (I21 a b 0) fun e t=>e=(bif cC (uS a b) a.length 0 then .normal else .ret)∧t=bif cC (uS a b) a.length 0 then X21 else Y21:=by
 refine aW.all hT t74 bM a.length (uS a b) (fun i=>I21 a b i) X21 Y21 .ret (.inr rfl) (aA f21 0) (aD f21 0) (fun _=>[]) (fun _ _=>aF.nil) (fun i hi h=> ?_) (fun i hi h=> ?_)
  ⟨_,_,⟨_,_,YM a b a.length,by simp,by simp⟩⟩
 ·unfold uS at h
  rw[Bool.not_eq_true']at h
  have e:=YL a b i
  rw[aE (by omega) (by omega),Int.toNat_natCast]at e
  refine⟨_,_,⟨_,_,e, ?_,by simp⟩⟩
  simp only[h,bS]
  omega
 ·unfold uS at h
  rw[Bool.not_eq_false']at h
  rw[if_neg (by intro h;cases h)]
  have e:=YK a b i
  rw[Int.toNat_natCast]at e
  refine⟨_,_,⟨_,_,e, ?_,by simp⟩⟩
  simp only[h,bS]
  omega
def P0:aQ:=fun args h=>
 match args,h with
 |[.c (.view _ (.ints .i64 a) n1 1 _),.c (.view _ (.ints .i64 b) n2 1 _)],[]=>
  some (.c (.bool (lkI a b)),[],[decide (a.length≤274877906944)])
 |_,_=>none
theorem m21:aV Tryz.prog 23 P0:=by
 intro args h res h' o hnorm he ho
 unfold P0 at he
 split at he
 case h_2=>cases he
 rename_i nl a n1 cap nl2 b n2 cap2
 simp only[Option.some.injEq,Prod.mk.injEq]at he
 obtain⟨rfl,rfl,rfl⟩:=he
 simp only[List.mem_cons,List.not_mem_nil,or_false,forall_eq_or_imp,forall_eq,decide_eq_true_eq]at ho
 have o1:=ho
 simp only[bG,AV.norm,bI,aJ.norm,Con.size,List.cons.injEq,AV.c.injEq,AV.agg.injEq,aJ.view.injEq,aN,true_and,and_true]at hnorm
 obtain⟨⟨rfl,rfl,rfl⟩,rfl,rfl,rfl⟩:=hnorm
 unfold lkI
 cases hl:((a.length:Int)==(b.length:Int))with
 |false=>exact a5 t74 (fn:=f21) (by kernel_rfl) (by kernel_rfl) (a1K a b []) (by simp only[bne,hl,bS]) (by simp) (fun cc _=>aF.nil)
 |true=>
  have hl':a.length=b.length:=by have:=beq_iff_eq.1 hl;omega
  have g:=l21 a b hl' o1
  have hq: ∀x,cC (uS a b) a.length 0=x→cC (uS a b) a.length 0=x:=fun _ h=>h
  cases hx:cC (uS a b) a.length 0 with
  |true=>
   rw[hx]at g
   exact a5 t74 (fn:=f21) (by kernel_rfl) (by kernel_rfl) (a1L a b) (by simp only[bne,hl,bS]) (by simp) (fun cc hcc=>aF.cons (c:=cc) (by cases hcc;kernel_rfl) (by cases hcc;exact g) aF.nil)
  |false=>
   rw[hx]at g
   exact a5 t74 (fn:=f21) (by kernel_rfl) (by kernel_rfl) (VF a b) (by simp only[bne,hl,bS]) (by simp) (fun cc hcc=>aF.cons (c:=cc) (by cases hcc;kernel_rfl) (by cases hcc;exact g) aF.nil)
theorem JG (a:List Int):lkI a a=true:=by
 unfold lkI
 rw[beq_self_eq_true,Bool.true_and,bY]
 intro i _ _
 unfold uS;simp
def uR (a b:List Bool) (i:Nat):Bool:=a.getD i false==b.getD i false
def lkB (a b:List Bool):Bool:=((a.length:Int)==(b.length:Int))&&cC (uR a b) a.length 0
theorem l92 (a b:List Bool) (hl:a.length=b.length) (hn:a.length≤274877906944):
  aW Tryz.prog 0 (.block 0 (.loop (a6 0 (a7 f92)))) (I92 a b 0) fun e t=>e=(bif cC (uR a b) a.length 0 then .normal else .ret)∧t=bif cC (uR a b) a.length 0 then X92 else Y92:=by
 refine aW.all hT t74 bM a.length (uR a b) (fun i=>I92 a b i) X92 Y92 .ret (.inr rfl) (aA f92 0) (aD f92 0) (fun _=>[]) (fun _ _=>aF.nil) (fun i hi h=> ?_) (fun i hi h=> ?_)
  ⟨_,_,⟨_,_,a09 a b a.length,by simp,by simp⟩⟩
 ·unfold uR at h
  have e:=a08 a b i
  rw[aE (by omega) (by omega),Int.toNat_natCast]at e
  refine⟨_,_,⟨_,_,e, ?_,by simp⟩⟩
  simp only[h,bS]
  omega
 ·unfold uR at h
  rw[if_neg (by intro h;cases h)]
  have e:=a07 a b i
  rw[Int.toNat_natCast]at e
  refine⟨_,_,⟨_,_,e, ?_,by simp⟩⟩
  simp only[h,bS]
  omega
def OZ:aQ:=fun args h=>
 match args,h with
 |[.c (.view _ (.bools a) n1 1 _),.c (.view _ (.bools b) n2 1 _)],[]=>
  some (.c (.bool (lkB a b)),[],[decide (a.length≤274877906944)])
 |_,_=>none
theorem m92:aV Tryz.prog 79 OZ:=by
 intro args h res h' o hnorm he ho
 unfold OZ at he
 split at he
 case h_2=>cases he
 rename_i nl a n1 cap nl2 b n2 cap2
 simp only[Option.some.injEq,Prod.mk.injEq]at he
 obtain⟨rfl,rfl,rfl⟩:=he
 simp only[List.mem_cons,List.not_mem_nil,or_false,forall_eq_or_imp,forall_eq,decide_eq_true_eq]at ho
 have o1:=ho
 simp only[bG,AV.norm,bI,aJ.norm,Con.size,List.cons.injEq,AV.c.injEq,AV.agg.injEq,aJ.view.injEq,aN,true_and,and_true]at hnorm
 obtain⟨⟨rfl,rfl,rfl⟩,rfl,rfl,rfl⟩:=hnorm
 unfold lkB
 cases hl:((a.length:Int)==(b.length:Int))with
 |false=>exact a5 t74 (fn:=f92) (by kernel_rfl) (by kernel_rfl) (a3J a b []) (by simp only[bne,hl,bS]) (by simp) (fun cc _=>aF.nil)
 |true=>
  have hl':a.length=b.length:=by have:=beq_iff_eq.1 hl;omega
  have g:=l92 a b hl' o1
  have hq: ∀x,cC (uR a b) a.length 0=x→cC (uR a b) a.length 0=x:=fun _ h=>h
  cases hx:cC (uR a b) a.length 0 with
  |true=>
   rw[hx]at g
   exact a5 t74 (fn:=f92) (by kernel_rfl) (by kernel_rfl) (a3K a b) (by simp only[bne,hl,bS]) (by simp) (fun cc hcc=>aF.cons (c:=cc) (by cases hcc;kernel_rfl) (by cases hcc;exact g) aF.nil)
  |false=>
   rw[hx]at g
   exact a5 t74 (fn:=f92) (by kernel_rfl) (by kernel_rfl) (W6 a b) (by simp only[bne,hl,bS]) (by simp) (fun cc hcc=>aF.cons (c:=cc) (by cases hcc;kernel_rfl) (by cases hcc;exact g) aF.nil)
theorem JF (a:List Bool):lkB a a=true:=by
 unfold lkB
 rw[beq_self_eq_true,Bool.true_and,bY]
 intro i _ _
 unfold uR;simp
def BH:aQ:=fun args h=>
 match args,h with
 |[.c (.view _ (.ints .i64 a) n1 1 _),.c (.view _ (.ints .i64 b) n2 1 _)],[]=>
  some (.c (.bool true),[],[decide (a.length≤274877906944),lkI a b])
 |_,_=>none
theorem a7W:aV Tryz.prog 23 BH:=by
 intro args h res h' o hnorm he ho
 unfold BH at he
 split at he
 case h_2=>cases he
 rename_i nl a n1 cap nl2 b n2 cap2
 simp only[Option.some.injEq,Prod.mk.injEq]at he
 obtain⟨rfl,rfl,rfl⟩:=he
 simp only[List.mem_cons,List.not_mem_nil,or_false,forall_eq_or_imp,forall_eq,decide_eq_true_eq]at ho
 obtain⟨o1,o2⟩:=ho
 rw[←o2]
 exact m21 _ _ _ _ _ hnorm rfl (by simp[o1])
def BG:aQ:=fun args h=>
 match args,h with
 |[.c (.view _ (.bools a) n1 1 _),.c (.view _ (.bools b) n2 1 _)],[]=>
  some (.c (.bool true),[],[decide (a.length≤274877906944),lkB a b])
 |_,_=>none
theorem a7Y:aV Tryz.prog 79 BG:=by
 intro args h res h' o hnorm he ho
 unfold BG at he
 split at he
 case h_2=>cases he
 rename_i nl a n1 cap nl2 b n2 cap2
 simp only[Option.some.injEq,Prod.mk.injEq]at he
 obtain⟨rfl,rfl,rfl⟩:=he
 simp only[List.mem_cons,List.not_mem_nil,or_false,forall_eq_or_imp,forall_eq,decide_eq_true_eq]at ho
 obtain⟨o1,o2⟩:=ho
 rw[←o2]
 exact m92 _ _ _ _ _ hnorm rfl (by simp[o1])
noncomputable def T75:List bF:=[⟨23,[],nm BH⟩,⟨79,[],nm BG⟩]++T74
theorem e75:a8 Tryz.prog T75:=by
 refine a8.append ?_ e74
 intro e he
 simp only[List.mem_cons,List.not_mem_nil,or_false]at he
 rcases he with rfl|rfl
 ·exact a7W.ok
 ·exact a7Y.ok
theorem t75:bN Tryz.prog (aB T75):=aP e75
theorem a22 (k k':Int) (a a' b b':List Int) (c c':List Bool):aG tt (aB T75) ([]) 100 Tryz.f24 [.agg [.int .i64 k,.view none (.ints .i64 a) a.length 1 none,.view none (.ints .i64 b) b.length 1 none,.view none (.bools c) c.length 1 none],.agg [.int .i64 k',.view none (.ints .i64 a') a'.length 1 none,.view none (.ints .i64 b') b'.length 1 none,.view none (.bools c') c'.length 1 none]] [] [(0,true),(0,true),(0,true)]=
  some ⟨.c (.bool (bif bif bif k==k' then true else false then true else false then true else false)),[],((k==k')&&((k==k')&&((k==k')&&((k==k')&&((k==k')&&(decide (a.length≤274877906944)&&(lkI a a'&&((bif k==k' then true else false)&&((bif k==k' then true else false)&&((bif k==k' then true else false)&&((bif k==k' then true else false)&&((bif k==k' then true else false)&&(decide (b.length≤274877906944)&&(lkI b b'&&((bif bif k==k' then true else false then true else false)&&((bif bif k==k' then true else false then true else false)&&((bif bif k==k' then true else false then true else false)&&((bif bif k==k' then true else false then true else false)&&((bif bif k==k' then true else false then true else false)&&(decide (c.length≤274877906944)&&((lkB c c')&&true))))))))))))))))))))),[]⟩:=by kernel_rfl
def GI:aQ:=fun args h=>
 match args,h with
 |[.agg [.int .i64 k,.view _ (.ints .i64 a) n1 1 _,.view _ (.ints .i64 b) n2 1 _,.view _ (.bools c) n3 1 _],.agg [.int .i64 k',.view _ (.ints .i64 a') n1' 1 _,.view _ (.ints .i64 b') n2' 1 _,.view _ (.bools c') n3' 1 _]],[]=>
  some (.c (.bool true),[],[k==k',decide (a.length≤274877906944),lkI a a',decide (b.length≤274877906944),lkI b b',decide (c.length≤274877906944),lkB c c'])
 |_,_=>none
theorem m37:aV Tryz.prog 24 GI:=by
 intro args h res h' o hnorm he ho
 unfold GI at he
 split at he
 case h_2=>cases he
 rename_i k nl1 a n1 cap1 nl2 b n2 cap2 nl3 c n3 cap3 k' nl1' a' n1' cap1' nl2' b' n2' cap2' nl3' c' n3' cap3'
 simp only[Option.some.injEq,Prod.mk.injEq]at he
 obtain⟨rfl,rfl,rfl⟩:=he
 simp only[List.mem_cons,List.not_mem_nil,or_false,forall_eq_or_imp,forall_eq,decide_eq_true_eq]at ho
 obtain⟨o1,o2,o3,o4,o5,o6,o7⟩:=ho
 simp only[bG,AV.norm,bI,aJ.norm,Con.size,List.cons.injEq,AV.c.injEq,AV.agg.injEq,aJ.view.injEq,aN,true_and,and_true]at hnorm
 obtain⟨⟨⟨rfl,rfl,rfl⟩,⟨rfl,rfl,rfl⟩,rfl,rfl,rfl⟩,⟨rfl,rfl,rfl⟩,⟨rfl,rfl,rfl⟩,rfl,rfl,rfl⟩:=hnorm
 have e:=a22 k k' a a' b b' c c'
 rw[o1]at e
 exact a5 t75 (by kernel_rfl) (by kernel_rfl) e (by simp only[o1,o2,o3,o4,o5,o6,o7,bS]) (by simp) (fun cc _=>aF.nil)
noncomputable def T76:List bF:=[⟨24,[],nm GI⟩]++T75
theorem e76:a8 Tryz.prog T76:=by
 refine a8.append ?_ e75
 intro e he
 simp only[List.mem_cons,List.not_mem_nil,or_false]at he
 subst he;exact m37.ok
theorem t76:bN Tryz.prog (aB T76):=aP e76
theorem a19 (k:Int) (a b:List Int) (c:List Bool) (on:Bool) (kd:Int) (d:List Int) (vs:Int) (k':Int) (a' b':List Int) (c':List Bool) (on':Bool) (kd':Int) (d':List Int) (vs':Int):aG tt (aB T76) ([]) 100 Tryz.f12 [.agg [.int .i64 k,.view none (.ints .i64 a) a.length 1 none,.view none (.ints .i64 b) b.length 1 none,.view none (.bools c) c.length 1 none,.bool on,.int .i64 kd,.view none (.ints .i64 d) d.length 1 none,.int .i64 vs],.agg [.int .i64 k',.view none (.ints .i64 a') a'.length 1 none,.view none (.ints .i64 b') b'.length 1 none,.view none (.bools c') c'.length 1 none,.bool on',.int .i64 kd',.view none (.ints .i64 d') d'.length 1 none,.int .i64 vs']] [] [(1,true),(0,true),(0,true)]=
  some ⟨.c (.bool (bif bif bif on==on' then kd==kd' else false then true else false then vs==vs' else false)),[],((k==k')&&(decide (a.length≤274877906944)&&(lkI a a'&&(decide (b.length≤274877906944)&&(lkI b b'&&(decide (c.length≤274877906944)&&(lkB c c'&&((on==on')&&((on==on')&&((on==on')&&((on==on')&&((on==on')&&((bif on==on' then kd==kd' else false)&&((bif on==on' then kd==kd' else false)&&((bif on==on' then kd==kd' else false)&&((bif on==on' then kd==kd' else false)&&((bif on==on' then kd==kd' else false)&&(decide (d.length≤274877906944)&&(lkI d d'&&((bif bif on==on' then kd==kd' else false then true else false)&&((bif bif on==on' then kd==kd' else false then true else false)&&((bif bif on==on' then kd==kd' else false then true else false)&&((bif bif on==on' then kd==kd' else false then true else false)&&((bif bif on==on' then kd==kd' else false then true else false)&&true)))))))))))))))))))))))),[]⟩:=by kernel_rfl
end
section
def kpE (x y:PK):Bool:=(x.k==y.k)&&(lkI x.a y.a&&(lkI x.b y.b&&(lkB x.c y.c&&((x.on==y.on)&&((x.kd==y.kd)&&(lkI x.d y.d&&(x.vs==y.vs)))))))
theorem X4 (x:PK):kpE x x=true:=by
 simp only[kpE,JG,JF,beq_self_eq_true,Bool.and_self]
def GH:aQ:=fun args h=>
 match args,h with
 |[.agg [.int .i64 k,.view _ (.ints .i64 a) n1 1 _,.view _ (.ints .i64 b) n2 1 _,.view _ (.bools c) n3 1 _,.bool on,.int .i64 kd,.view _ (.ints .i64 d) n4 1 _,.int .i64 vs],.agg [.int .i64 k',.view _ (.ints .i64 a') n1' 1 _,.view _ (.ints .i64 b') n2' 1 _,.view _ (.bools c') n3' 1 _,.bool on',.int .i64 kd',.view _ (.ints .i64 d') n4' 1 _,.int .i64 vs']],[]=>
  some (.c (.bool true),[],[decide (a.length≤274877906944),decide (b.length≤274877906944),decide (c.length≤274877906944),decide (d.length≤274877906944),kpE ⟨k,a,b,c,on,kd,d,vs⟩ ⟨k',a',b',c',on',kd',d',vs'⟩])
 |_,_=>none
theorem m17:aV Tryz.prog 12 GH:=by
 intro args h res h' o hnorm he ho
 unfold GH at he
 split at he
 case h_2=>cases he
 rename_i k nl1 a n1 cap1 nl2 b n2 cap2 nl3 c n3 cap3 on kd nl4 d n4 cap4 vs k' nl1' a' n1' cap1' nl2' b' n2' cap2' nl3' c' n3' cap3' on' kd' nl4' d' n4' cap4' vs'
 simp only[Option.some.injEq,Prod.mk.injEq]at he
 obtain⟨rfl,rfl,rfl⟩:=he
 simp only[List.mem_cons,List.not_mem_nil,or_false,forall_eq_or_imp,forall_eq,decide_eq_true_eq]at ho
 obtain⟨o1,o2,o3,o4,o5⟩:=ho
 simp only[bG,AV.norm,bI,aJ.norm,Con.size,List.cons.injEq,AV.c.injEq,AV.agg.injEq,aJ.view.injEq,aN,true_and,and_true]at hnorm
 obtain⟨⟨⟨rfl,rfl,rfl⟩,⟨rfl,rfl,rfl⟩,⟨rfl,rfl,rfl⟩,rfl,rfl,rfl⟩,⟨rfl,rfl,rfl⟩,⟨rfl,rfl,rfl⟩,⟨rfl,rfl,rfl⟩,rfl,rfl,rfl⟩:=hnorm
 simp only[kpE,Bool.and_eq_true]at o5
 obtain⟨e1,e2,e3,e4,e5,e6,e7,e8⟩:=o5
 have e:=a19 k a b c on kd d vs k' a' b' c' on' kd' d' vs'
 rw[e5,e6,e8]at e
 exact a5 t76 (by kernel_rfl) (by kernel_rfl) e (by simp only[e1,e2,e3,e4,e5,e6,e7,e8,o1,o2,o3,o4,bS]) (by simp) (fun cc _=>aF.nil)
def G8:aQ:=fun args h=>
 match args,h with
 |[.c (.view _ (.ints .u8 b) n 1 _)],[]=>
  some (.tup [.agg (dkQ b).1.vcells,.c (.int .i64 (dkK b))],[],[aZ b])
 |_,_=>none
noncomputable def T77:List bF:=[⟨12,[],nm GH⟩]++T76
theorem e77:a8 Tryz.prog T77:=by
 refine a8.append ?_ e76
 intro e he
 simp only[List.mem_cons,List.not_mem_nil,or_false]at he
 subst he;exact m17.ok
theorem t77:bN Tryz.prog (aB T77):=aP e77
end
section
open Go.RowKit
def GZ (k:IntKind) (w:World) (a:Option Addr) (len cap:Nat) (zs:List Int):Prop:=
 (a=none∧len=0∧cap=0∧zs=[])∨
 ∃x,a=some x∧len≤cap∧cap≤maxLen∧zs.length=cap∧(∀i,i<zs.length→w.cell? (x.add i)=some (.int k (zs.getD i 0)))∧ ∀n∈zs,(Lit.int k n).wf=true
theorem a80 (W:World):Mem (fun _=>False) W (bL noIds) [] noIds W:=
 ⟨fun id=>by
  have:Heap.get ([]:List b9) id=.unborn:=by simp[Heap.get]
  rw[this];exact trivial,fun i j b h _=>(by cases h),fun id b h=>(by cases h),rfl,rfl,rfl,Nat.le_refl _,fun _ _ _=>rfl,fun b h=>h.elim⟩
theorem a15 {n:Int} (h:(Lit.int .u8 n).wf=true):bet n 0 255=true:=by
 simp only[Lit.wf,Bool.and_eq_true,decide_eq_true_eq]at h
 rw[b8]
 have h1:=h.1
 have h2:=h.2
 simp[IntKind.min,IntKind.max,IntKind.bits,IntKind.signed]at h1 h2
 omega
theorem K5 {k:IntKind} {W:World} {a:Option Addr} {len cap:Nat} {zs:List Int} (h:GZ k W a len cap zs):CR0 W (fun b=>bL noIds b∨False) noIds (.view none (.ints k (zs.take len)) (zs.take len).length 1 none) (.slice a len cap):=by
 rcases h with⟨rfl,rfl,rfl,rfl⟩|⟨x,rfl,hl,hm,hz,hcell,hwz⟩
 ·exact .viewNone none _ 1 none none 0 rfl (fun _ h=>by cases h) (fun _ h=>by cases h) (fun _=>rfl)
 ·have hlen:(zs.take len).length=len:=by rw[List.length_take];omega
  by_cases h0:len=0
  ·subst h0
   have e:zs.take 0=[]:=by simp
   rw[e]
   exact .viewNone none _ 1 none (some x) cap rfl (fun _ h=>by cases h) (fun _ h=>by cases h) (fun h=>by cases h)
  ·obtain⟨b,off,spot⟩:=x
   have hc:=hcell 0 (by omega)
   have hspot:spot=none:=by simpa [Addr.add]using World.cell?_spot hc
   subst hspot
   have hg: ∀q,q<len→(zs.take len).getD q 0=zs.getD q 0:=fun q hq=>by
    rw[List.getD_eq_getElem?_getD,List.getD_eq_getElem?_getD,List.getElem?_take,if_pos hq]
   rw[hlen]
   refine .view none _ len 1 none b off cap (fun q=> .int k (zs.getD q 0)) (fun _ h=> ?_) (fun q hq=> ?_) (fun q hq=> ?_) (by rw[Nat.mul_one];exact hlen.symm) hl (fun _ h=>by cases h) (fun _ h=>by cases h)
   ·rcases h with⟨id,h⟩|h
    ·cases h
    ·exact h
   ·have hq':q<len:=by rw[←hlen];exact hq
    have:=hcell q (by omega)
    have ea:(⟨b,off,none⟩:Addr).add q=⟨b,off+q,none⟩:=by
     unfold Addr.add
     split
     ·rename_i h0;subst h0;rfl
     ·rfl
    rw[ea]at this
    exact this
   ·have hq':q<len:=by rw[←hlen];exact hq
    have e:(Con.ints k (zs.take len)).cell q=.int k (zs.getD q 0):=by
     show aJ.int k _=_
     rw[hg q hq']
    rw[e]
    exact .int k _
theorem FN {W:World} {a:Option Addr} {len cap:Nat} {zs:List Int} (h:GZ .u8 W a len cap zs):aZ (zs.take len)=true:=by
 unfold aZ
 rw[List.all_eq_true]
 intro x hx
 rcases h with⟨rfl,rfl,rfl,rfl⟩|⟨y,rfl,hl,hm,hz,hcell,hwz⟩
 ·simp at hx
 ·exact a15 (hwz x (List.mem_of_mem_take hx))
theorem P1 {f:FuncId} (hm: ∀b,aZ b=true→bE Tryz.prog f [.c (.view none (.ints .u8 b) b.length 1 none)] [] (.c (.bool true)) []) {W:World} {a:Option Addr} {len cap:Nat} {zs:List Int} (w0:GZ .u8 W a len cap zs):
  Calls Tryz.prog f #[.slice a len cap] W fun e w'=>e=.returned (.bool true)∧Below W.heap.size W w':=by
 refine Calls.mono ((hm (zs.take len) (FN w0)).2 (a80 W) [.slice a len cap] rfl fun q hq=> ?_) ?_
 ·match q,hq with
  |0,_=>exact .c _ _ (K5 w0)
 ·rintro e w' ⟨v,ρ',rfl,mb,im,m',hr⟩
  refine⟨?_,m'.os,m'.tape,m'.output,m'.size,fun k hk=>m'.keep k hk fun⟨id,h⟩=>by cases h⟩
  cases hr with
  |c x v hx=>cases hx;rfl
theorem own:ownKnob Tryz.prog.godebug=none:=by kernel_rfl
theorem a5A:laidOutB Tryz.prog=true:=by kernel_rfl
end
section
def vwM (F:aQ):aQ:=fun args h=>
 match h with
 |[]=>(match F args []with
  |some (res,out,obl)=>(match vwA (Heap.get out) res with
   |some (res',o)=>some (res',[],obl++o)
   |none=>none)
  |none=>none)
 |_=>none
theorem aV.vw {P:Program} {f:FuncId} {F:aQ} (hF:aV P f F):aV P f (vwM F):=by
 intro args h res h' o hn he ho
 unfold vwM at he
 split at he
 ·split at he
  ·rename_i r out obl hf
   split at he
   ·rename_i r' o2 hv
    simp only[Option.some.injEq,Prod.mk.injEq]at he
    obtain⟨rfl,rfl,rfl⟩:=he
    exact(hF _ _ _ _ _ hn hf fun b hb=>ho b (by simp[hb])).views hv fun b hb=>ho b (by simp[hb])
   ·cases he
  ·cases he
 ·cases he
end
section
def pJ (h:List b9):Nat→Nat→List Nat→Bool
 |0,_,_=>true
 |m+1,k,x::r=>((x==k)||(match Heap.get h x with|.dead=>true|_=>false))&&pJ h m (k+1) r
 |_+1,_,[]=>false
theorem kQ {h:List b9}: ∀ {m k:Nat} {l:List Nat},pJ h m k l=true→ ∀i,i<m→l[i]? =some (k+i)∨ ∃x,l[i]? =some x∧Heap.get h x=.dead
 |0,_,_,_,i,hi=>by omega
 |m+1,k,x::r,hr,i,hi=>by
  simp only[pJ,Bool.and_eq_true,Bool.or_eq_true,beq_iff_eq]at hr
  cases i with
  |zero=>
   rcases hr.1 with e|e
   ·exact .inl (by simp[e])
   ·refine .inr ⟨x,by simp, ?_⟩
    revert e
    cases Heap.get h x<;>simp
  |succ i=>
   have:=kQ hr.2 i (by omega)
   rw[show k+(i+1)=k+1+i from by omega]
   simpa using this
 |_+1,_,[],hr,i,hi=>by simp[pJ]at hr
theorem bE.remapD {P:Program} {f:FuncId} {args:List AV} {h h':List b9} {res:AV} (hm:bE P f args h res h') {order:List Nat} (hn:cT order=true) (hr:pJ h' h.length 0 order=true):
  bE P f args h (res.ren order) (order.map fun id=>(Heap.get h' id).ren order):=by
 refine⟨hm.1,fun {X w0 ρ0} m vs hl' hv=> ?_⟩
 refine Calls.mono (hm.2 m vs hl' hv) ?_
 rintro e w' ⟨v,ρ',rfl,mb,im,m',hx⟩
 refine⟨v,c6 h' order ρ',rfl,mb.trans ⟨fun _ _ _=>rfl,fun _ _=>rfl,Nat.le_refl _,fun b hb=> .inl (dF _ _ _ b hb)⟩, ?_,m'.ren hn,hx.ren (dF _ _ _) (dN _ _ _)⟩
 have one: ∀k,ρ0 k≠ .unborn→c6 h' order ρ' k=ρ' k∨c6 h' order ρ' k=.dead:=fun k hk=>by
  have hlt:k<h.length:=by
   rcases Nat.lt_or_ge k h.length with hlt|hge
   ·exact hlt
   ·have hs:=m.slot k
    have hg:Heap.get h k=.unborn:=by
     unfold Heap.get
     rw[List.getD_eq_getElem?_getD,List.getElem?_eq_none hge];rfl
    rw[hg]at hs
    revert hs hk
    cases ρ0 k<;>simp[dW]
  rcases kQ hr k hlt with e|⟨x,e,hd⟩
  ·rw[Nat.zero_add]at e;exact eU e
  ·right
   have hs:=m'.slot x
   rw[hd]at hs
   have hx:ρ' x=.dead:=by
    revert hs
    cases ρ' x<;>simp[dW]
   unfold c6
   rw[e]
   dsimp only
   rw[hd]
   exact hx
 refine⟨fun id hd=> ?_,fun id hd=> ?_,fun id b hd=> ?_⟩
 ·rcases one id (by rw[hd];simp)with e|e
  ·rw[e];exact im.dead id hd
  ·exact e
 ·rcases one id (by rw[hd];simp)with e|e
  ·rw[e];exact im.nil id hd
  ·exact .inr e
 ·rcases one id (by rw[hd];simp)with e|e
  ·rw[e];exact im.at_ id b hd
  ·exact .inr e
end
section
theorem cX.slots {m:Nat} {ts:List AV} {h h':List b9} (hs:oC h h'):cX m ⟨ts,h⟩ ⟨ts,h'⟩:=fun X w0 ρ0 ρ a w h0 r=>
 ⟨ρ,r.size,r.tmps,⟨fun id=>kS hs id _ _ _ _ (r.mem.slot id),r.mem.inj,r.mem.own,r.mem.os,r.mem.tape,r.mem.output,r.mem.size,r.mem.keep,r.mem.foreign⟩,r.defers,r.mono,r.ids⟩
theorem cX.addDead {m:Nat} {s:St}:cX m s ⟨s.tmps,s.heap++[.dead]⟩:=fun X w0 ρ0 ρ a w h0 r=>by
 obtain⟨hun,m2⟩:=r.mem.addNil (c0:=.ints .i64 []) rfl
 have mo:=fY w hun
 have hg:Heap.get (s.heap++[.live (.ints .i64 [])]) s.heap.length=.live (.ints .i64 []):=by
  unfold Heap.get
  rw[List.getD_eq_getElem?_getD,List.getElem?_append_right (Nat.le_refl _)];simp
 obtain⟨mo2,m3⟩:=m2.kill (id:=s.heap.length) (by rw[hg];simp)
 have e:(s.heap++[b9.live (.ints .i64 [])]).set s.heap.length .dead=s.heap++[.dead]:=by
  rw[List.set_append_right _ _ (Nat.le_refl _)];simp
 rw[e]at m3
 exact⟨_,r.size,fun t ht=>((r.tmps t ht).mono mo).mono mo2,m3,r.defers,(r.mono.trans mo.toB).trans mo2.toB,(r.ids.trans mo.ids).trans mo2.ids⟩
theorem cX.remapD {m:Nat} {s:St} {live order:List Nat} (hn:cT order=true) (hr:pJ s.heap m 0 order=true):cX m s (Am.remap live order s):=by
 intro X w0 ρ0 ρ a w h0 r
 refine⟨c6 s.heap order ρ,⟨by simp[Am.remap,fV,r.size],fun t ht=> ?_,r.mem.ren hn,r.defers, ?_, ?_⟩⟩
 ·simp only[Am.remap,fV]at ht⊢
  rw[mK _ _ _ _ _ ht]
  cases live.elem (0+t)with
  |false=>exact .any _
  |true=>exact(r.tmps t ht).ren (dF _ _ _) (dN _ _ _)
 ·exact r.mono.trans ⟨fun _ _ _=>rfl,fun _ _=>rfl,Nat.le_refl _,fun b hb=> .inl (dF _ _ _ b hb)⟩
 ·have one: ∀k,ρ0 k≠ .unborn→c6 s.heap order ρ k=ρ k∨c6 s.heap order ρ k=.dead:=fun k hk=>by
   have hlt:k<m:=by
    rcases Nat.lt_or_ge k m with h|h
    ·exact h
    ·exact absurd (h0 k h) hk
   rcases kQ hr k hlt with e|⟨x,e,hd⟩
   ·rw[Nat.zero_add]at e;exact eU e
   ·right
    have hs:=r.mem.slot x
    rw[hd]at hs
    have hx:ρ x=.dead:=by
     revert hs
     cases ρ x<;>simp[dW]
    unfold c6
    rw[e]
    dsimp only
    rw[hd]
    exact hx
  refine⟨fun id h=> ?_,fun id h=> ?_,fun id b h=> ?_⟩
  ·rcases one id (by rw[h];simp)with e|e
   ·rw[e];exact r.ids.dead id h
   ·exact e
  ·rcases one id (by rw[h];simp)with e|e
   ·rw[e];exact r.ids.nil id h
   ·exact .inr e
  ·rcases one id (by rw[h];simp)with e|e
   ·rw[e];exact r.ids.at_ id b h
   ·exact .inr e
section
variable {P : Program} {tt : Tab} (hT : jA P tt) {ct : CT} (hct : bN P ct) (bM : P.follows .mixedOrders = true)
include hT hct bM
theorem aW.roundsW {m id:Nat} {body:Code} {α:Type} (Inv:α→Prop) (I:α→St) (μ:α→Nat) (live liveX:List Nat) (ex:α→Ex) (post:α→St) (lc:α→List (Nat×LC))
  (hlc: ∀x,Inv x→aF P m (lc x) body)
  (h: ∀x,Inv x→ ∃n p e b q s,aH m live liveX (aK tt ct (lc x) m n body (I x) p)=some (e,b,q,s)∧b=true∧(∀x∈q,x)∧
   ((e=.normal∧ ∃y,Inv y∧μ y<μ x∧cX m s (I y)∧ex y=ex x∧post y=post x)∨(e=.exit id∧ex x=.normal∧cX m s (post x))∨(e≠ .normal∧e≠ .exit id∧ex x=e∧cX m s (post x)))):
  ∀x,Inv x→aW P m (.block id (.loop body)) (I x) fun e t=>e=ex x∧t=post x:=by
 intro x0 hx0
 let Q: {x//Inv x}→Ex→St→Prop:=fun x e t=>e≠ .normal∧(if e=.exit id then ex x.1=.normal else ex x.1=e)∧cX m (fit m liveX t) (post x.1)
 have key:=aW.loop (P:=P) (m:=m) (body:=body) (α:= {x//Inv x}) (fun x=>I x.1) (fun x=>μ x.1) Q (fun x=>by
  obtain⟨n,p,e,b,q,s,hr,hb,hq,hc⟩:=h x.1 x.2
  obtain⟨o,ho,h1⟩:=Option.map_eq_some_iff.1 hr
  simp only[Prod.mk.injEq]at h1
  obtain⟨rfl,rfl,rfl,rfl⟩:=h1
  refine((kF hT hct bM n ho (kX hb) hq (hlc x.1 x.2)).1).mono fun e t ⟨h1,h2⟩=> ?_
  subst h1 h2
  rcases hc with⟨hn,y,hy,hm,hf,e1,e2⟩|⟨hn,e1,e2⟩|⟨h1,h2,h3,h4⟩
  ·rw[hn]at hf
   refine .inl ⟨hn,⟨y,hy⟩,hm,(cX.fit m live _).trans hf,fun e t hq=> ?_⟩
   simp only[Q,e1,e2]at hq⊢;exact hq
  ·rw[hn]at e2
   refine .inr ⟨by rw[hn];simp,by rw[hn];simp,by rw[hn];simp[e1],e2⟩
  ·have hi:nO o.ex=false:=by
    revert h1
    cases o.ex<;>simp[nO]
   rw[hi]at h4
   exact .inr ⟨h1,h1,by rw[if_neg h2];exact h3,h4⟩) ⟨x0,hx0⟩
 refine(aW.block (Q:=fun e t=>e=ex x0∧cX m (fit m liveX t) (post x0)) (key.mono fun e t hq=> ?_)).weaken fun e t ⟨h1,h2⟩=>⟨post x0,(cX.fit m liveX t).trans h2,h1,rfl⟩
 obtain⟨h1,h2,h3⟩:=hq
 by_cases e1:e=.exit id
 ·rw[if_pos e1]at h2
  exact .inl ⟨e1,h2.symm,h3⟩
 ·rw[if_neg e1]at h2
  exact .inr ⟨e1,h2.symm,h3⟩
end
end
section
noncomputable abbrev fFO:=Tryz.f197
noncomputable def IFO (l:Int) (f b:List Int) (i:Int):St:=bA fFO.ntmps [(1,.c (.ptr 0 0 0 0)),(26,.c (.view none (.ints .i64 f) f.length 1 none)),(27,.c (.int .i64 f.length)),(28,.c (.int .i64 i))] [.live (.cells [.int .i64 l,.view none (.ints .i64 f) f.length 1 none,.view none (.ints .i64 b) b.length 1 none])]
noncomputable def XFO:St:=bA fFO.ntmps [] []
noncomputable def YFO:St:=bA fFO.ntmps [(2,.c (.bool false))] []
theorem a0A (l:Int) (f b:List Int) (i:Int):aH 0 (aA fFO 0) (aD fFO 0) (aK tt (aB T77) ([]) 0 100 (a6 0 (a7 fFO)) (IFO l f b i) [(0,true),(0,true)])=
  some (.ret,(decide (i<(↑f.length:Int))&&(decide (0≤i)&&(decide (i<(↑f.length:Int))&&(decide (i.toNat<f.length)&&(!bet (f.getD i.toNat 0) 0 7&&(!bet (f.getD i.toNat 0) 0 7&&(!bet (f.getD i.toNat 0) 0 7&&(!bet (f.getD i.toNat 0) 0 7&&((!bet (f.getD i.toNat 0) 0 7)&&true))))))))),[],YFO):=by kernel_rfl
theorem a0B (l:Int) (f b:List Int) (i:Int):aH 0 (aA fFO 0) (aD fFO 0) (aK tt (aB T77) ([]) 0 100 (a6 0 (a7 fFO)) (IFO l f b i) [(0,true),(0,false),(0,true)])=
  some (.ret,(decide (i<(↑f.length:Int))&&(decide (0≤i)&&(decide (i<(↑f.length:Int))&&(decide (i.toNat<f.length)&&(!!bet (f.getD i.toNat 0) 0 7&&(!!bet (f.getD i.toNat 0) 0 7&&(!!bet (f.getD i.toNat 0) 0 7&&(!!bet (f.getD i.toNat 0) 0 7&&((bif !bet (f.getD i.toNat 0) 0 7 then true else f.getD i.toNat 0==l)&&((bif !bet (f.getD i.toNat 0) 0 7 then true else f.getD i.toNat 0==l)&&((bif !bet (f.getD i.toNat 0) 0 7 then true else f.getD i.toNat 0==l)&&((bif !bet (f.getD i.toNat 0) 0 7 then true else f.getD i.toNat 0==l)&&((bif !bet (f.getD i.toNat 0) 0 7 then true else f.getD i.toNat 0==l)&&true))))))))))))),[],YFO):=by kernel_rfl
theorem a0C (l:Int) (f b:List Int) (i:Int):aH 0 (aA fFO 0) (aD fFO 0) (aK tt (aB T77) ([]) 0 100 (a6 0 (a7 fFO)) (IFO l f b i) [(0,true),(0,false),(0,false),(0,true),(0,true)])=
  some (.ret,(decide (i<(↑f.length:Int))&&(decide (0≤i)&&(decide (i<(↑f.length:Int))&&(decide (i.toNat<f.length)&&(!!bet (f.getD i.toNat 0) 0 7&&(!!bet (f.getD i.toNat 0) 0 7&&(!!bet (f.getD i.toNat 0) 0 7&&(!!bet (f.getD i.toNat 0) 0 7&&((!bif !bet (f.getD i.toNat 0) 0 7 then true else f.getD i.toNat 0==l)&&((!bif !bet (f.getD i.toNat 0) 0 7 then true else f.getD i.toNat 0==l)&&((!bif !bet (f.getD i.toNat 0) 0 7 then true else f.getD i.toNat 0==l)&&(decide (i>0)&&(decide (i>0)&&(decide (i>0)&&(decide (i>0)&&(decide (i>0)&&(decide (0≤IntKind.i64.wrap (i-1))&&(decide (IntKind.i64.wrap (i-1)<(↑f.length:Int))&&(decide (i>0)&&(decide ((IntKind.i64.wrap (i-1)).toNat<f.length)&&(decide (i>0)&&(decide (i>0)&&((!bif !bet (f.getD i.toNat 0) 0 7 then true else f.getD i.toNat 0==l)&&((bif bif !bet (f.getD i.toNat 0) 0 7 then true else f.getD i.toNat 0==l then true else bif decide (i>0)then decide (f.getD (IntKind.i64.wrap (i-1)).toNat 0≥f.getD i.toNat 0)else false)&&((bif bif !bet (f.getD i.toNat 0) 0 7 then true else f.getD i.toNat 0==l then true else bif decide (i>0)then decide (f.getD (IntKind.i64.wrap (i-1)).toNat 0≥f.getD i.toNat 0)else false)&&((bif bif !bet (f.getD i.toNat 0) 0 7 then true else f.getD i.toNat 0==l then true else bif decide (i>0)then decide (f.getD (IntKind.i64.wrap (i-1)).toNat 0≥f.getD i.toNat 0)else false)&&((bif bif !bet (f.getD i.toNat 0) 0 7 then true else f.getD i.toNat 0==l then true else bif decide (i>0)then decide (f.getD (IntKind.i64.wrap (i-1)).toNat 0≥f.getD i.toNat 0)else false)&&((bif bif !bet (f.getD i.toNat 0) 0 7 then true else f.getD i.toNat 0==l then true else bif decide (i>0)then decide (f.getD (IntKind.i64.wrap (i-1)).toNat 0≥f.getD i.toNat 0)else false)&&((bif bif !bet (f.getD i.toNat 0) 0 7 then true else f.getD i.toNat 0==l then true else bif decide (i>0)then decide (f.getD (IntKind.i64.wrap (i-1)).toNat 0≥f.getD i.toNat 0)else false)&&((bif bif !bet (f.getD i.toNat 0) 0 7 then true else f.getD i.toNat 0==l then true else bif decide (i>0)then decide (f.getD (IntKind.i64.wrap (i-1)).toNat 0≥f.getD i.toNat 0)else false)&&((bif bif !bet (f.getD i.toNat 0) 0 7 then true else f.getD i.toNat 0==l then true else bif decide (i>0)then decide (f.getD (IntKind.i64.wrap (i-1)).toNat 0≥f.getD i.toNat 0)else false)&&true))))))))))))))))))))))))))))))),[],YFO):=by kernel_rfl
theorem a0D (l:Int) (f b:List Int) (i:Int):aH 0 (aA fFO 0) (aD fFO 0) (aK tt (aB T77) ([]) 0 100 (a6 0 (a7 fFO)) (IFO l f b i) [(0,true),(0,false),(0,false),(0,true),(0,false),(0,true)])=
  some (.ret,(decide (i<(↑f.length:Int))&&(decide (0≤i)&&(decide (i<(↑f.length:Int))&&(decide (i.toNat<f.length)&&(!!bet (f.getD i.toNat 0) 0 7&&(!!bet (f.getD i.toNat 0) 0 7&&(!!bet (f.getD i.toNat 0) 0 7&&(!!bet (f.getD i.toNat 0) 0 7&&((!bif !bet (f.getD i.toNat 0) 0 7 then true else f.getD i.toNat 0==l)&&((!bif !bet (f.getD i.toNat 0) 0 7 then true else f.getD i.toNat 0==l)&&((!bif !bet (f.getD i.toNat 0) 0 7 then true else f.getD i.toNat 0==l)&&(decide (i>0)&&(decide (i>0)&&(decide (i>0)&&(decide (i>0)&&(decide (i>0)&&(decide (0≤IntKind.i64.wrap (i-1))&&(decide (IntKind.i64.wrap (i-1)<(↑f.length:Int))&&(decide (i>0)&&(decide ((IntKind.i64.wrap (i-1)).toNat<f.length)&&(decide (i>0)&&(decide (i>0)&&((!bif !bet (f.getD i.toNat 0) 0 7 then true else f.getD i.toNat 0==l)&&((!bif bif !bet (f.getD i.toNat 0) 0 7 then true else f.getD i.toNat 0==l then true else bif decide (i>0)then decide (f.getD (IntKind.i64.wrap (i-1)).toNat 0≥f.getD i.toNat 0)else false)&&((!bif bif !bet (f.getD i.toNat 0) 0 7 then true else f.getD i.toNat 0==l then true else bif decide (i>0)then decide (f.getD (IntKind.i64.wrap (i-1)).toNat 0≥f.getD i.toNat 0)else false)&&((!bif bif !bet (f.getD i.toNat 0) 0 7 then true else f.getD i.toNat 0==l then true else bif decide (i>0)then decide (f.getD (IntKind.i64.wrap (i-1)).toNat 0≥f.getD i.toNat 0)else false)&&((!bif bif !bet (f.getD i.toNat 0) 0 7 then true else f.getD i.toNat 0==l then true else bif decide (i>0)then decide (f.getD (IntKind.i64.wrap (i-1)).toNat 0≥f.getD i.toNat 0)else false)&&(decide (0≤i)&&(decide (i<(↑b.length:Int))&&((!bif bif !bet (f.getD i.toNat 0) 0 7 then true else f.getD i.toNat 0==l then true else bif decide (i>0)then decide (f.getD (IntKind.i64.wrap (i-1)).toNat 0≥f.getD i.toNat 0)else false)&&(decide (i.toNat<b.length)&&((!bif bif !bet (f.getD i.toNat 0) 0 7 then true else f.getD i.toNat 0==l then true else bif decide (i>0)then decide (f.getD (IntKind.i64.wrap (i-1)).toNat 0≥f.getD i.toNat 0)else false)&&((!bif bif !bet (f.getD i.toNat 0) 0 7 then true else f.getD i.toNat 0==l then true else bif decide (i>0)then decide (f.getD (IntKind.i64.wrap (i-1)).toNat 0≥f.getD i.toNat 0)else false)&&((bif bif bif !bet (f.getD i.toNat 0) 0 7 then true else f.getD i.toNat 0==l then true else bif decide (i>0)then decide (f.getD (IntKind.i64.wrap (i-1)).toNat 0≥f.getD i.toNat 0)else false then true else !bet (b.getD i.toNat 0) 1 30)&&true)))))))))))))))))))))))))))))))))),[],YFO):=by kernel_rfl
theorem a0E (l:Int) (f b:List Int) (i:Int):aH 0 (aA fFO 0) (aD fFO 0) (aK tt (aB T77) ([]) 0 100 (a6 0 (a7 fFO)) (IFO l f b i) [(0,true),(0,false),(0,false),(0,true),(0,false),(0,false)])=
  some (.normal,(decide (i<(↑f.length:Int))&&(decide (0≤i)&&(decide (i<(↑f.length:Int))&&(decide (i.toNat<f.length)&&(!!bet (f.getD i.toNat 0) 0 7&&(!!bet (f.getD i.toNat 0) 0 7&&(!!bet (f.getD i.toNat 0) 0 7&&(!!bet (f.getD i.toNat 0) 0 7&&((!bif !bet (f.getD i.toNat 0) 0 7 then true else f.getD i.toNat 0==l)&&((!bif !bet (f.getD i.toNat 0) 0 7 then true else f.getD i.toNat 0==l)&&((!bif !bet (f.getD i.toNat 0) 0 7 then true else f.getD i.toNat 0==l)&&(decide (i>0)&&(decide (i>0)&&(decide (i>0)&&(decide (i>0)&&(decide (i>0)&&(decide (0≤IntKind.i64.wrap (i-1))&&(decide (IntKind.i64.wrap (i-1)<(↑f.length:Int))&&(decide (i>0)&&(decide ((IntKind.i64.wrap (i-1)).toNat<f.length)&&(decide (i>0)&&(decide (i>0)&&((!bif !bet (f.getD i.toNat 0) 0 7 then true else f.getD i.toNat 0==l)&&((!bif bif !bet (f.getD i.toNat 0) 0 7 then true else f.getD i.toNat 0==l then true else bif decide (i>0)then decide (f.getD (IntKind.i64.wrap (i-1)).toNat 0≥f.getD i.toNat 0)else false)&&((!bif bif !bet (f.getD i.toNat 0) 0 7 then true else f.getD i.toNat 0==l then true else bif decide (i>0)then decide (f.getD (IntKind.i64.wrap (i-1)).toNat 0≥f.getD i.toNat 0)else false)&&((!bif bif !bet (f.getD i.toNat 0) 0 7 then true else f.getD i.toNat 0==l then true else bif decide (i>0)then decide (f.getD (IntKind.i64.wrap (i-1)).toNat 0≥f.getD i.toNat 0)else false)&&((!bif bif !bet (f.getD i.toNat 0) 0 7 then true else f.getD i.toNat 0==l then true else bif decide (i>0)then decide (f.getD (IntKind.i64.wrap (i-1)).toNat 0≥f.getD i.toNat 0)else false)&&(decide (0≤i)&&(decide (i<(↑b.length:Int))&&((!bif bif !bet (f.getD i.toNat 0) 0 7 then true else f.getD i.toNat 0==l then true else bif decide (i>0)then decide (f.getD (IntKind.i64.wrap (i-1)).toNat 0≥f.getD i.toNat 0)else false)&&(decide (i.toNat<b.length)&&((!bif bif !bet (f.getD i.toNat 0) 0 7 then true else f.getD i.toNat 0==l then true else bif decide (i>0)then decide (f.getD (IntKind.i64.wrap (i-1)).toNat 0≥f.getD i.toNat 0)else false)&&((!bif bif !bet (f.getD i.toNat 0) 0 7 then true else f.getD i.toNat 0==l then true else bif decide (i>0)then decide (f.getD (IntKind.i64.wrap (i-1)).toNat 0≥f.getD i.toNat 0)else false)&&((!bif bif bif !bet (f.getD i.toNat 0) 0 7 then true else f.getD i.toNat 0==l then true else bif decide (i>0)then decide (f.getD (IntKind.i64.wrap (i-1)).toNat 0≥f.getD i.toNat 0)else false then true else !bet (b.getD i.toNat 0) 1 30)&&true)))))))))))))))))))))))))))))))))),[],IFO l f b (IntKind.i64.wrap (i+1))):=by kernel_rfl
theorem a0F (l:Int) (f b:List Int) (i:Int):aH 0 (aA fFO 0) (aD fFO 0) (aK tt (aB T77) ([]) 0 100 (a6 0 (a7 fFO)) (IFO l f b i) [(0,true),(0,false),(0,false),(0,false),(0,false),(0,true)])=
  some (.ret,(decide (i<(↑f.length:Int))&&(decide (0≤i)&&(decide (i<(↑f.length:Int))&&(decide (i.toNat<f.length)&&(!!bet (f.getD i.toNat 0) 0 7&&(!!bet (f.getD i.toNat 0) 0 7&&(!!bet (f.getD i.toNat 0) 0 7&&(!!bet (f.getD i.toNat 0) 0 7&&((!bif !bet (f.getD i.toNat 0) 0 7 then true else f.getD i.toNat 0==l)&&((!bif !bet (f.getD i.toNat 0) 0 7 then true else f.getD i.toNat 0==l)&&((!bif !bet (f.getD i.toNat 0) 0 7 then true else f.getD i.toNat 0==l)&&(!decide (i>0)&&(!decide (i>0)&&(!decide (i>0)&&(!decide (i>0)&&(!decide (i>0)&&(!decide (i>0)&&(!decide (i>0)&&(!decide (i>0)&&((!bif !bet (f.getD i.toNat 0) 0 7 then true else f.getD i.toNat 0==l)&&(!decide (i>0)&&((!bif bif !bet (f.getD i.toNat 0) 0 7 then true else f.getD i.toNat 0==l then true else false)&&((!bif bif !bet (f.getD i.toNat 0) 0 7 then true else f.getD i.toNat 0==l then true else false)&&((!bif bif !bet (f.getD i.toNat 0) 0 7 then true else f.getD i.toNat 0==l then true else false)&&((!bif bif !bet (f.getD i.toNat 0) 0 7 then true else f.getD i.toNat 0==l then true else false)&&(decide (0≤i)&&(decide (i<(↑b.length:Int))&&((!bif bif !bet (f.getD i.toNat 0) 0 7 then true else f.getD i.toNat 0==l then true else false)&&(decide (i.toNat<b.length)&&((!bif bif !bet (f.getD i.toNat 0) 0 7 then true else f.getD i.toNat 0==l then true else false)&&((!bif bif !bet (f.getD i.toNat 0) 0 7 then true else f.getD i.toNat 0==l then true else false)&&((bif bif bif !bet (f.getD i.toNat 0) 0 7 then true else f.getD i.toNat 0==l then true else false then true else !bet (b.getD i.toNat 0) 1 30)&&true)))))))))))))))))))))))))))))))),[],YFO):=by kernel_rfl
theorem a0G (l:Int) (f b:List Int) (i:Int):aH 0 (aA fFO 0) (aD fFO 0) (aK tt (aB T77) ([]) 0 100 (a6 0 (a7 fFO)) (IFO l f b i) [(0,true),(0,false),(0,false),(0,false),(0,false),(0,false)])=
  some (.normal,(decide (i<(↑f.length:Int))&&(decide (0≤i)&&(decide (i<(↑f.length:Int))&&(decide (i.toNat<f.length)&&(!!bet (f.getD i.toNat 0) 0 7&&(!!bet (f.getD i.toNat 0) 0 7&&(!!bet (f.getD i.toNat 0) 0 7&&(!!bet (f.getD i.toNat 0) 0 7&&((!bif !bet (f.getD i.toNat 0) 0 7 then true else f.getD i.toNat 0==l)&&((!bif !bet (f.getD i.toNat 0) 0 7 then true else f.getD i.toNat 0==l)&&((!bif !bet (f.getD i.toNat 0) 0 7 then true else f.getD i.toNat 0==l)&&(!decide (i>0)&&(!decide (i>0)&&(!decide (i>0)&&(!decide (i>0)&&(!decide (i>0)&&(!decide (i>0)&&(!decide (i>0)&&(!decide (i>0)&&((!bif !bet (f.getD i.toNat 0) 0 7 then true else f.getD i.toNat 0==l)&&(!decide (i>0)&&((!bif bif !bet (f.getD i.toNat 0) 0 7 then true else f.getD i.toNat 0==l then true else false)&&((!bif bif !bet (f.getD i.toNat 0) 0 7 then true else f.getD i.toNat 0==l then true else false)&&((!bif bif !bet (f.getD i.toNat 0) 0 7 then true else f.getD i.toNat 0==l then true else false)&&((!bif bif !bet (f.getD i.toNat 0) 0 7 then true else f.getD i.toNat 0==l then true else false)&&(decide (0≤i)&&(decide (i<(↑b.length:Int))&&((!bif bif !bet (f.getD i.toNat 0) 0 7 then true else f.getD i.toNat 0==l then true else false)&&(decide (i.toNat<b.length)&&((!bif bif !bet (f.getD i.toNat 0) 0 7 then true else f.getD i.toNat 0==l then true else false)&&((!bif bif !bet (f.getD i.toNat 0) 0 7 then true else f.getD i.toNat 0==l then true else false)&&((!bif bif bif !bet (f.getD i.toNat 0) 0 7 then true else f.getD i.toNat 0==l then true else false then true else !bet (b.getD i.toNat 0) 1 30)&&true)))))))))))))))))))))))))))))))),[],IFO l f b (IntKind.i64.wrap (i+1))):=by kernel_rfl
theorem a0H (l:Int) (f b:List Int) (i:Int):aH 0 (aA fFO 0) (aD fFO 0) (aK tt (aB T77) ([]) 0 100 (a6 0 (a7 fFO)) (IFO l f b i) [(0,false)])=
  some (.exit 0,((!decide (i<(↑f.length:Int)))&&true),[],XFO):=by kernel_rfl
def fmT (l:Int) (f b:List Int) (i:Nat):Bool:=bet (f.getD i 0) 0 7&&(!(f.getD i 0==l)&&(!(decide ((i:Int)>0)&&decide (f.getD (i-1) 0≥f.getD i 0))&&bet (b.getD i 0) 1 30))
def fmB (l:Int) (f b:List Int):Bool:=bet l 0 7&&(bet (f.length:Int) 1 4&&(((b.length:Int)==(f.length:Int))&&cC (fmT l f b) f.length 0))
theorem lFO (l:Int) (f b:List Int) (hl:b.length=f.length) (hf:f.length≤4):
  aW Tryz.prog 0 (.block 0 (.loop (a6 0 (a7 fFO)))) (IFO l f b 0) fun e t=>e=(bif cC (fmT l f b) f.length 0 then .normal else .ret)∧t=bif cC (fmT l f b) f.length 0 then XFO else YFO:=by
 refine aW.all hT t77 bM f.length (fmT l f b) (fun i=>IFO l f b i) XFO YFO .ret (.inr rfl) (aA fFO 0) (aD fFO 0) (fun _=>[]) (fun _ _=>aF.nil) (fun i hi h=> ?_) (fun i hi h=> ?_)
  ⟨_,_,⟨_,_,a0H l f b f.length,by simp,by simp⟩⟩
 ·simp only[fmT,Bool.and_eq_true,Bool.not_eq_true']at h
  obtain⟨h1,h2,h3,h4⟩:=h
  cases c:decide ((i:Int)>0)with
  |true=>
   have hi0:(i:Int)>0:=of_decide_eq_true c
   rw[c,Bool.true_and]at h3
   have e:=a0E l f b i
   rw[aE (i:=(i:Int)+1) (by omega) (by omega),aE (i:=(i:Int)-1) (by omega) (by omega),show((i:Int)-1).toNat=i-1 from by omega,Int.toNat_natCast]at e
   refine⟨_,_,⟨_,_,e, ?_,by simp⟩⟩
   simp only[h1,h2,h3,h4,c,decide_true,bS]
   omega
  |false=>
   have e:=a0G l f b i
   rw[aE (i:=(i:Int)+1) (by omega) (by omega),Int.toNat_natCast]at e
   refine⟨_,_,⟨_,_,e, ?_,by simp⟩⟩
   simp only[h1,h2,h4,c,bS]
   omega
 ·rw[if_neg (by intro h;cases h)]
  unfold fmT at h
  cases h1:bet (f.getD i 0) 0 7 with
  |false=>
   have e:=a0A l f b i
   rw[Int.toNat_natCast]at e
   refine⟨_,_,⟨_,_,e, ?_,by simp⟩⟩
   simp only[h1,bS]
   omega
  |true=>
   rw[h1,Bool.true_and]at h
   cases h2:f.getD i 0==l with
   |true=>
    have e:=a0B l f b i
    rw[Int.toNat_natCast]at e
    refine⟨_,_,⟨_,_,e, ?_,by simp⟩⟩
    simp only[h1,h2,bS]
    omega
   |false=>
    rw[h2,Bool.not_false,Bool.true_and]at h
    cases c:decide ((i:Int)>0)with
    |true=>
     have hi0:(i:Int)>0:=of_decide_eq_true c
     rw[c,Bool.true_and]at h
     cases h3:decide (f.getD (i-1) 0≥f.getD i 0)with
     |true=>
      have e:=a0C l f b i
      rw[aE (i:=(i:Int)-1) (by omega) (by omega),show((i:Int)-1).toNat=i-1 from by omega,Int.toNat_natCast]at e
      refine⟨_,_,⟨_,_,e, ?_,by simp⟩⟩
      simp only[h1,h2,h3,c,bS]
      omega
     |false=>
      rw[h3,Bool.not_false,Bool.true_and]at h
      have e:=a0D l f b i
      rw[aE (i:=(i:Int)-1) (by omega) (by omega),show((i:Int)-1).toNat=i-1 from by omega,Int.toNat_natCast]at e
      refine⟨_,_,⟨_,_,e, ?_,by simp⟩⟩
      simp only[h1,h2,h3,h,c,bS]
      omega
    |false=>
     rw[c,Bool.false_and,Bool.not_false,Bool.true_and]at h
     have e:=a0F l f b i
     rw[Int.toNat_natCast]at e
     refine⟨_,_,⟨_,_,e, ?_,by simp⟩⟩
     simp only[h1,h2,h,c,bS]
     omega
theorem a46 (l:Int) (f b:List Int) (lcv:List (Nat×LC)):aG tt (aB T77) (lcv) 100 fFO [.agg [.int .i64 l,.view none (.ints .i64 f) f.length 1 none,.view none (.ints .i64 b) b.length 1 none]] [] [(0,true)]=
  some ⟨.c (.bool false),[],(!bet l 0 7&&(!bet l 0 7&&(!bet l 0 7&&(!bet l 0 7&&(!bet l 0 7&&((!bet l 0 7)&&true)))))),[]⟩:=by kernel_rfl
theorem a47 (l:Int) (f b:List Int) (lcv:List (Nat×LC)):aG tt (aB T77) (lcv) 100 fFO [.agg [.int .i64 l,.view none (.ints .i64 f) f.length 1 none,.view none (.ints .i64 b) b.length 1 none]] [] [(0,false),(0,true)]=
  some ⟨.c (.bool false),[],(!!bet l 0 7&&(!!bet l 0 7&&(!!bet l 0 7&&(!!bet l 0 7&&(!!bet l 0 7&&((bif !bet l 0 7 then true else !bet (↑f.length:Int) 1 4)&&((bif !bet l 0 7 then true else !bet (↑f.length:Int) 1 4)&&((bif !bet l 0 7 then true else !bet (↑f.length:Int) 1 4)&&((bif !bet l 0 7 then true else !bet (↑f.length:Int) 1 4)&&((bif !bet l 0 7 then true else !bet (↑f.length:Int) 1 4)&&((bif !bet l 0 7 then true else !bet (↑f.length:Int) 1 4)&&((bif !bet l 0 7 then true else !bet (↑f.length:Int) 1 4)&&((bif !bet l 0 7 then true else !bet (↑f.length:Int) 1 4)&&true))))))))))))),[]⟩:=by kernel_rfl
theorem a48 (l:Int) (f b:List Int):aG tt (aB T77) ([(0,⟨aA fFO 0,IFO l f b 0,.normal,XFO⟩)]) 100 fFO [.agg [.int .i64 l,.view none (.ints .i64 f) f.length 1 none,.view none (.ints .i64 b) b.length 1 none]] [] [(0,false),(0,false),(0,false)]=
  some ⟨.c (.bool true),[],(!!bet l 0 7&&(!!bet l 0 7&&(!!bet l 0 7&&(!!bet l 0 7&&(!!bet l 0 7&&((!bif !bet l 0 7 then true else !bet (↑f.length:Int) 1 4)&&((!bif !bet l 0 7 then true else !bet (↑f.length:Int) 1 4)&&((!bif !bet l 0 7 then true else !bet (↑f.length:Int) 1 4)&&((!bif !bet l 0 7 then true else !bet (↑f.length:Int) 1 4)&&((!bif !bet l 0 7 then true else !bet (↑f.length:Int) 1 4)&&((!bif !bet l 0 7 then true else !bet (↑f.length:Int) 1 4)&&((!bif !bet l 0 7 then true else !bet (↑f.length:Int) 1 4)&&((!bif bif !bet l 0 7 then true else !bet (↑f.length:Int) 1 4 then true else(↑b.length:Int)!=(↑f.length:Int))&&true))))))))))))),[IFO l f b 0=IFO l f b 0]⟩:=by kernel_rfl
theorem WA (l:Int) (f b:List Int):aG tt (aB T77) ([(0,⟨aA fFO 0,IFO l f b 0,.ret,YFO⟩)]) 100 fFO [.agg [.int .i64 l,.view none (.ints .i64 f) f.length 1 none,.view none (.ints .i64 b) b.length 1 none]] [] [(0,false),(0,false),(0,false)]=
  some ⟨.c (.bool false),[],(!!bet l 0 7&&(!!bet l 0 7&&(!!bet l 0 7&&(!!bet l 0 7&&(!!bet l 0 7&&((!bif !bet l 0 7 then true else !bet (↑f.length:Int) 1 4)&&((!bif !bet l 0 7 then true else !bet (↑f.length:Int) 1 4)&&((!bif !bet l 0 7 then true else !bet (↑f.length:Int) 1 4)&&((!bif !bet l 0 7 then true else !bet (↑f.length:Int) 1 4)&&((!bif !bet l 0 7 then true else !bet (↑f.length:Int) 1 4)&&((!bif !bet l 0 7 then true else !bet (↑f.length:Int) 1 4)&&((!bif !bet l 0 7 then true else !bet (↑f.length:Int) 1 4)&&((!bif bif !bet l 0 7 then true else !bet (↑f.length:Int) 1 4 then true else(↑b.length:Int)!=(↑f.length:Int))&&true))))))))))))),[IFO l f b 0=IFO l f b 0]⟩:=by kernel_rfl
def rY:aQ:=fun args h=>
 match args,h with
 |[.agg [.int .i64 l,.view _ (.ints .i64 f) n1 1 _,.view _ (.ints .i64 b) n2 1 _]],[]=>
  some (.c (.bool (fmB l f b)),[],[decide (b.length=f.length)])
 |_,_=>none
theorem mFO:aV Tryz.prog 197 rY:=by
 intro args h res h' o hnorm he ho
 unfold rY at he
 split at he
 case h_2=>cases he
 rename_i l nl1 f n1 cap1 nl2 b n2 cap2
 simp only[Option.some.injEq,Prod.mk.injEq]at he
 obtain⟨rfl,rfl,rfl⟩:=he
 simp only[List.mem_cons,List.not_mem_nil,or_false,forall_eq_or_imp,forall_eq,decide_eq_true_eq]at ho
 have o1:=ho
 simp only[bG,AV.norm,bI,aJ.norm,Con.size,List.cons.injEq,AV.c.injEq,AV.agg.injEq,aJ.view.injEq,aN,true_and,and_true]at hnorm
 obtain⟨⟨rfl,rfl,rfl⟩,rfl,rfl,rfl⟩:=hnorm
 have hl:((b.length:Int)==(f.length:Int))=true:=by rw[o1,beq_self_eq_true]
 unfold fmB
 cases h1:bet l 0 7 with
 |false=>exact a5 t77 (by kernel_rfl) (by kernel_rfl) (a46 l f b []) (by simp only[h1,bS]) (by simp) (fun cc _=>aF.nil)
 |true=>
  cases h2:bet (f.length:Int) 1 4 with
  |false=>exact a5 t77 (by kernel_rfl) (by kernel_rfl) (a47 l f b []) (by simp only[h1,h2,bS]) (by simp) (fun cc _=>aF.nil)
  |true=>
   rw[hl]
   have hf:=b8.1 h2
   have g:=lFO l f b o1 (by omega)
   cases h3:cC (fmT l f b) f.length 0 with
   |true=>
    rw[h3]at g
    exact a5 t77 (by kernel_rfl) (by kernel_rfl) (a48 l f b) (by simp only[h1,h2,hl,bne,bS]) (by simp) (fun cc hcc=>aF.cons (c:=cc) (by cases hcc;kernel_rfl) (by cases hcc;exact g) aF.nil)
   |false=>
    rw[h3]at g
    exact a5 t77 (by kernel_rfl) (by kernel_rfl) (WA l f b) (by simp only[h1,h2,hl,bne,bS]) (by simp) (fun cc hcc=>aF.cons (c:=cc) (by cases hcc;kernel_rfl) (by cases hcc;exact g) aF.nil)
noncomputable abbrev fPD:=Tryz.f122
noncomputable def IPD (l:Int) (f b w:List Int) (s i:Int):St:=bA fPD.ntmps [(1,.c (.view none (.ints .i64 w) w.length 1 none)),(2,.c (.ptr 0 0 0 0)),(5,.c (.int .i64 s)),(9,.c (.view none (.ints .i64 f) f.length 1 none)),(10,.c (.int .i64 f.length)),(11,.c (.int .i64 i))] [.live (.cells [.int .i64 l,.view none (.ints .i64 f) f.length 1 none,.view none (.ints .i64 b) b.length 1 none])]
noncomputable def XPD (s:Int):St:=bA fPD.ntmps [(5,.c (.int .i64 s))] []
theorem a0W (l:Int) (f b w:List Int) (s i:Int):aH 0 (aA fPD 0) (aD fPD 0) (aK tt (aB T77) ([]) 0 100 (a6 0 (a7 fPD)) (IPD l f b w s i) [(0,true)])=
  some (.normal,(decide (i<(↑f.length:Int))&&(decide (0≤i)&&(decide (i<(↑f.length:Int))&&(decide (i.toNat<f.length)&&(decide (0≤f.getD i.toNat 0)&&(decide (f.getD i.toNat 0<(↑w.length:Int))&&(decide ((f.getD i.toNat 0).toNat<w.length)&&(decide (0≤i)&&(decide (i<(↑b.length:Int))&&(decide (i.toNat<b.length)&&(fok (w.getD (f.getD i.toNat 0).toNat 0)&&(fok (b.getD i.toNat 0)&&(fok s&&((fok (w.getD (f.getD i.toNat 0).toNat 0*b.getD i.toNat 0%31))&&true)))))))))))))),[],IPD l f b w ((s+w.getD (f.getD i.toNat 0).toNat 0*b.getD i.toNat 0%31)%31) (IntKind.i64.wrap (i+1))):=by kernel_rfl
theorem a0X (l:Int) (f b w:List Int) (s i:Int):aH 0 (aA fPD 0) (aD fPD 0) (aK tt (aB T77) ([]) 0 100 (a6 0 (a7 fPD)) (IPD l f b w s i) [(0,false)])=
  some (.exit 0,((!decide (i<(↑f.length:Int)))&&true),[],XPD (s)):=by kernel_rfl
noncomputable abbrev fLD:=Tryz.f145
noncomputable def ILD (l:Int) (f b w:List Int) (s i:Int):St:=bA fLD.ntmps [(1,.c (.view none (.ints .i64 w) w.length 1 none)),(2,.c (.ptr 0 0 0 0)),(5,.c (.int .i64 s)),(6,.c (.int .i64 i))] [.live (.cells [.int .i64 l,.view none (.ints .i64 f) f.length 1 none,.view none (.ints .i64 b) b.length 1 none])]
noncomputable def XLD (s:Int):St:=bA fLD.ntmps [(5,.c (.int .i64 s))] []
theorem a0I (l:Int) (f b w:List Int) (s i:Int):aH 0 (aA fLD 0) (aD fLD 0) (aK tt (aB T77) ([]) 0 100 (a6 0 (a7 fLD)) (ILD l f b w s i) [(0,true)])=
  some (.normal,(decide (i<(↑f.length:Int))&&(decide (0≤i)&&(decide (i<(↑b.length:Int))&&(decide (i.toNat<b.length)&&(decide (0≤i)&&(decide (i<(↑f.length:Int))&&(decide (i.toNat<f.length)&&(decide (0≤f.getD i.toNat 0)&&(decide (f.getD i.toNat 0<(↑w.length:Int))&&((decide ((f.getD i.toNat 0).toNat<w.length))&&true)))))))))),[],ILD l f b w ((IntKind.i64.wrap (s+IntKind.i64.wrap (b.getD i.toNat 0*w.getD (f.getD i.toNat 0).toNat 0))).tmod 31) (IntKind.i64.wrap (i+1))):=by kernel_rfl
theorem a0J (l:Int) (f b w:List Int) (s i:Int):aH 0 (aA fLD 0) (aD fLD 0) (aK tt (aB T77) ([]) 0 100 (a6 0 (a7 fLD)) (ILD l f b w s i) [(0,false)])=
  some (.exit 0,((!decide (i<(↑f.length:Int)))&&true),[],XLD (s)):=by kernel_rfl
def doS (f b w:List Int) (i:Nat) (s:Int):Int:=(s+w.getD (f.getD i 0).toNat 0*b.getD i 0%31)%31
def doL (f b w:List Int):Int:=bP (doS f b w) f.length 0 0
theorem CJ {x:Int} (h:fok x=true):0≤x∧x≤30:=by simp only[fok,Bool.and_eq_true,decide_eq_true_eq]at h;exact h
theorem HW (f b w:List Int) (i:Nat) (s:Int):fok (doS f b w i s)=true:=c9 _
theorem lPD (l:Int) (f b w:List Int) (hb:b.length=f.length) (hw:w.length=8) (hf:f.length≤8) (h1:a9 b=true) (h2:a9 w=true) (h3:aM f=true):
  aW Tryz.prog 0 (.block 0 (.loop (a6 0 (a7 fPD)))) (IPD l f b w 0 0) fun e t=>e=.normal∧t=XPD (doL f b w):=by
 refine aW.count hT t77 bM (m:=0) (id:=0) (body:=a6 0 (a7 fPD)) (β:=Int) f.length (fun _ s=>fok s=true) (fun i s=>IPD l f b w s i) (fun s=>XPD s) (doS f b w) (aA fPD 0) (aD fPD 0) (fun _ _=>[]) (fun _ _ _ _=>aF.nil) (fun i s hi hs=>⟨HW _ _ _ _ _, ?_⟩) (fun s _=>⟨_,_,⟨_,_,a0X l f b w s f.length,by simp,by simp⟩⟩) 0 rfl
 have hb1:=aR h1 i
 have hw1:=aR h2 (f.getD i 0).toNat
 have hx:=b8.1 (cD h3 hi)
 have e:=a0W l f b w s i
 rw[aE (by omega) (by omega),Int.toNat_natCast]at e
 refine⟨_,_,⟨_,_,e, ?_,by simp⟩⟩
 simp only[hb1,hw1,hs,c9,bS]
 omega
theorem a4Z (l:Int) (f b w:List Int) (r:Int):aG tt (aB T77) ([(0,⟨aA fPD 0,IPD l f b w 0 0,.normal,XPD r⟩)]) 100 fPD [.agg [.int .i64 l,.view none (.ints .i64 f) f.length 1 none,.view none (.ints .i64 b) b.length 1 none],.c (.view none (.ints .i64 w) w.length 1 none)] [] []=
  some ⟨.c (.int .i64 r),[],true,[IPD l f b w 0 0=IPD l f b w 0 0]⟩:=by kernel_rfl
def PJ:aQ:=fun args h=>
 match args,h with
 |[.agg [.int .i64 l,.view _ (.ints .i64 f) n1 1 _,.view _ (.ints .i64 b) n2 1 _],.c (.view _ (.ints .i64 w) n3 1 _)],[]=>
  some (.c (.int .i64 (doL f b w)),[],[decide (b.length=f.length),decide (w.length=8),decide (f.length≤8),a9 b,a9 w,aM f])
 |_,_=>none
theorem mPD:aV Tryz.prog 122 PJ:=by
 intro args h res h' o hnorm he ho
 unfold PJ at he
 split at he
 case h_2=>cases he
 rename_i l nl1 f n1 cap1 nl2 b n2 cap2 nl3 w n3 cap3
 simp only[Option.some.injEq,Prod.mk.injEq]at he
 obtain⟨rfl,rfl,rfl⟩:=he
 simp only[List.mem_cons,List.not_mem_nil,or_false,forall_eq_or_imp,forall_eq,decide_eq_true_eq]at ho
 obtain⟨o1,o2,o3,o4,o5,o6⟩:=ho
 simp only[bG,AV.norm,bI,aJ.norm,Con.size,List.cons.injEq,AV.c.injEq,AV.agg.injEq,aJ.view.injEq,aN,true_and,and_true]at hnorm
 obtain⟨⟨⟨rfl,rfl,rfl⟩,rfl,rfl,rfl⟩,rfl,rfl,rfl⟩:=hnorm
 exact a5 t77 (by kernel_rfl) (by kernel_rfl) (a4Z l f b w (doL f b w)) (by simp) (by simp) (fun cc hcc=>aF.cons (c:=cc) (by cases hcc;kernel_rfl) (by cases hcc;exact lPD l f b w o1 o2 o3 o4 o5 o6) aF.nil)
theorem lLD (l:Int) (f b w:List Int) (hb:b.length=f.length) (hw:w.length=8) (hf:f.length≤8) (h1:a9 b=true) (h2:a9 w=true) (h3:aM f=true):
  aW Tryz.prog 0 (.block 0 (.loop (a6 0 (a7 fLD)))) (ILD l f b w 0 0) fun e t=>e=.normal∧t=XLD (doL f b w):=by
 refine aW.count hT t77 bM (m:=0) (id:=0) (body:=a6 0 (a7 fLD)) (β:=Int) f.length (fun _ s=>fok s=true) (fun i s=>ILD l f b w s i) (fun s=>XLD s) (doS f b w) (aA fLD 0) (aD fLD 0) (fun _ _=>[]) (fun _ _ _ _=>aF.nil) (fun i s hi hs=>⟨HW _ _ _ _ _, ?_⟩) (fun s _=>⟨_,_,⟨_,_,a0J l f b w s f.length,by simp,by simp⟩⟩) 0 rfl
 have hb1:=aR h1 i
 have hw1:=aR h2 (f.getD i 0).toNat
 have hx:=b8.1 (cD h3 hi)
 have e:=a0I l f b w s i
 have q1:=CJ hb1
 have q2:=CJ hw1
 have q3:=CJ hs
 rw[Int.toNat_natCast]at e
 have p1:0≤b.getD i 0*w.getD (f.getD i 0).toNat 0:=Int.mul_nonneg q1.1 q2.1
 have p2:b.getD i 0*w.getD (f.getD i 0).toNat 0≤30*30:=Int.mul_le_mul q1.2 q2.2 q2.1 (by omega)
 have ed:(IntKind.i64.wrap (s+IntKind.i64.wrap (b.getD i 0*w.getD (f.getD i 0).toNat 0))).tmod 31=doS f b w i s:=by
  rw[aE (i:=b.getD i 0*w.getD (f.getD i 0).toNat 0) p1 (by omega),aE (by omega) (by omega),eY (by omega)]
  unfold doS
  rw[Int.add_emod_emod,Int.mul_comm]
 rw[ed,aE (by omega) (by omega)]at e
 refine⟨_,_,⟨_,_,e, ?_,by simp⟩⟩
 simp only[bS]
 omega
theorem a4I (l:Int) (f b w:List Int) (r:Int):aG tt (aB T77) ([(0,⟨aA fLD 0,ILD l f b w 0 0,.normal,XLD r⟩)]) 100 fLD [.agg [.int .i64 l,.view none (.ints .i64 f) f.length 1 none,.view none (.ints .i64 b) b.length 1 none],.c (.view none (.ints .i64 w) w.length 1 none)] [] []=
  some ⟨.c (.int .i64 r),[],true,[ILD l f b w 0 0=ILD l f b w 0 0]⟩:=by kernel_rfl
def G9:aQ:=fun args h=>
 match args,h with
 |[.agg [.int .i64 l,.view _ (.ints .i64 f) n1 1 _,.view _ (.ints .i64 b) n2 1 _],.c (.view _ (.ints .i64 w) n3 1 _)],[]=>
  some (.c (.int .i64 (doL f b w)),[],[decide (b.length=f.length),decide (w.length=8),decide (f.length≤8),a9 b,a9 w,aM f])
 |_,_=>none
theorem mLD:aV Tryz.prog 145 G9:=by
 intro args h res h' o hnorm he ho
 unfold G9 at he
 split at he
 case h_2=>cases he
 rename_i l nl1 f n1 cap1 nl2 b n2 cap2 nl3 w n3 cap3
 simp only[Option.some.injEq,Prod.mk.injEq]at he
 obtain⟨rfl,rfl,rfl⟩:=he
 simp only[List.mem_cons,List.not_mem_nil,or_false,forall_eq_or_imp,forall_eq,decide_eq_true_eq]at ho
 obtain⟨o1,o2,o3,o4,o5,o6⟩:=ho
 simp only[bG,AV.norm,bI,aJ.norm,Con.size,List.cons.injEq,AV.c.injEq,AV.agg.injEq,aJ.view.injEq,aN,true_and,and_true]at hnorm
 obtain⟨⟨⟨rfl,rfl,rfl⟩,rfl,rfl,rfl⟩,rfl,rfl,rfl⟩:=hnorm
 exact a5 t77 (by kernel_rfl) (by kernel_rfl) (a4I l f b w (doL f b w)) (by simp) (by simp) (fun cc hcc=>aF.cons (c:=cc) (by cases hcc;kernel_rfl) (by cases hcc;exact lLD l f b w o1 o2 o3 o4 o5 o6) aF.nil)
end
section
def ngA (k:List Int):List Int:=[IntKind.i64.wrap (0-k.getD 4 0)%31,IntKind.i64.wrap (0-k.getD 5 0)%31,IntKind.i64.wrap (0-k.getD 6 0)%31,IntKind.i64.wrap (0-k.getD 7 0)%31,IntKind.i64.wrap (0-k.getD 8 0)%31,IntKind.i64.wrap (0-k.getD 9 0)%31,IntKind.i64.wrap (0-k.getD 10 0)%31,IntKind.i64.wrap (0-k.getD 11 0)%31]
def zB (k:List Int):Bool:=k.getD 0 0==0&&(k.getD 1 0==0&&(k.getD 2 0==0&&(k.getD 3 0==0&&true)))
def yD (a:List Int):List Int:=[a.getD 0 0,a.getD 1 0,a.getD 2 0,a.getD 3 0,a.getD 4 0,a.getD 5 0,a.getD 6 0,a.getD 7 0]
def QD (a:List Int):List aJ:=[.int .i64 (a.getD 0 0),.int .i64 (a.getD 1 0),.int .i64 (a.getD 2 0),.int .i64 (a.getD 3 0),.int .i64 (a.getD 4 0),.int .i64 (a.getD 5 0),.int .i64 (a.getD 6 0),.int .i64 (a.getD 7 0)]
def inK (R:List Int) (n:Nat) (a b c d:Int):List Int:=fX R n [a,b,c,d,0,0,0,0,0,0,0,0]
theorem a41 (a b c d:Int) (n m:Nat) (R:List Int) (P:List Int):aG tt (aB T77) ([]) 100 Tryz.f196 [.c (.ptr 0 0 0 0),.agg [.int .i64 a,.int .i64 b,.int .i64 c,.int .i64 d]] [.live (.cells [.sl 1 0 n 12 none,.sl 2 0 m 1 none]),.live (.ints .i64 R),.live (.ints .i64 P)] []=
  some ⟨.tup [.agg [.int .i64 (IntKind.i64.wrap (0-(fX R n [a,b,c,d,0,0,0,0,0,0,0,0]).getD 4 0)%31),.int .i64 (IntKind.i64.wrap (0-(fX R n [a,b,c,d,0,0,0,0,0,0,0,0]).getD 5 0)%31),.int .i64 (IntKind.i64.wrap (0-(fX R n [a,b,c,d,0,0,0,0,0,0,0,0]).getD 6 0)%31),.int .i64 (IntKind.i64.wrap (0-(fX R n [a,b,c,d,0,0,0,0,0,0,0,0]).getD 7 0)%31),.int .i64 (IntKind.i64.wrap (0-(fX R n [a,b,c,d,0,0,0,0,0,0,0,0]).getD 8 0)%31),.int .i64 (IntKind.i64.wrap (0-(fX R n [a,b,c,d,0,0,0,0,0,0,0,0]).getD 9 0)%31),.int .i64 (IntKind.i64.wrap (0-(fX R n [a,b,c,d,0,0,0,0,0,0,0,0]).getD 10 0)%31),.int .i64 (IntKind.i64.wrap (0-(fX R n [a,b,c,d,0,0,0,0,0,0,0,0]).getD 11 0)%31)],.c (.bool ((fX R n [a,b,c,d,0,0,0,0,0,0,0,0]).getD 0 0==0&&((fX R n [a,b,c,d,0,0,0,0,0,0,0,0]).getD 1 0==0&&((fX R n [a,b,c,d,0,0,0,0,0,0,0,0]).getD 2 0==0&&((fX R n [a,b,c,d,0,0,0,0,0,0,0,0]).getD 3 0==0&&true)))))],[.live (.cells [.sl 1 0 n 12 none,.sl 2 0 m 1 none]),.live (.ints .i64 R),.live (.ints .i64 P)],(decide (n≤274877906944)&&(decide (R.length=n*12)&&(a9 R&&(a9 [a,b,c,d,0,0,0,0,0,0,0,0]&&((i7 R n)&&true))))),[]⟩:=by kernel_rfl
def G4:aQ:=fun args h=>
 match args,h with
 |[.c (.ptr 0 0 0 0),.agg [.int .i64 a,.int .i64 b,.int .i64 c,.int .i64 d]],[.live (.cells [.sl 1 0 n 12 none,.sl 2 0 m 1 none]),.live (.ints .i64 R),.live (.ints .i64 P)]=>
  some (.tup [.agg (QD (ngA (inK R n a b c d))),.c (.bool (zB (inK R n a b c d)))],[.live (.cells [.sl 1 0 n 12 none,.sl 2 0 m 1 none]),.live (.ints .i64 R),.live (.ints .i64 P)],[decide (n≤274877906944),decide (R.length=n*12),a9 R,a9 [a,b,c,d,0,0,0,0,0,0,0,0],i7 R n])
 |_,_=>none
theorem a7Z:aS Tryz.prog 196 G4:=by
 intro args h res h' o he ho
 unfold G4 at he
 split at he
 case h_2=>cases he
 rename_i a b c d n m R P
 simp only[Option.some.injEq,Prod.mk.injEq]at he
 obtain⟨rfl,rfl,rfl⟩:=he
 simp only[List.mem_cons,List.not_mem_nil,or_false,forall_eq_or_imp,forall_eq,decide_eq_true_eq]at ho
 obtain⟨o1,o2,o3,o4,o5⟩:=ho
 exact a5 t77 (by kernel_rfl) (by kernel_rfl) (a41 a b c d n m R P) (by simp only[o1,o2,o3,o4,o5,decide_true,Bool.and_true]) (by simp) (fun cc _=>aF.nil)
noncomputable def T89:List bF:=[⟨196,[0],G4⟩,⟨197,[],nm rY⟩,⟨122,[],nm PJ⟩,⟨145,[],nm G9⟩]++T77
theorem e89:a8 Tryz.prog T89:=by
 refine a8.append ?_ e77
 intro e he
 simp only[List.mem_cons,List.not_mem_nil,or_false]at he
 rcases he with rfl|rfl|rfl|rfl
 ·exact a7Z
 ·exact mFO.ok
 ·exact mPD.ok
 ·exact mLD.ok
theorem t89:bN Tryz.prog (aB T89):=aP e89
noncomputable abbrev fPB:=Tryz.f165
noncomputable def IPB (l:Int) (f:List Int) (A:List Int) (B:Bool) (n:Nat) (o:List Int) (i:Int):St:=bA fPB.ntmps [(6,.c (.ptr 0 0 0 0)),(8,.c (.ptr 1 0 0 0)),(9,.c (.bool B)),(10,.c (.ptr 2 0 0 0)),(32,.c (.int .i64 (f.length:Int))),(33,.c (.int .i64 i))]
 [.live (.cells [.int .i64 0,.nils,.nils]),.live (.ints .i64 A),.live (.cells [.int .i64 l,.sl 3 0 ((f.length:Int).toNat) 1 none,.sl 4 0 n 1 none]),.live (.ints .i64 f),.live (.ints .i64 o)]
noncomputable def XPB (l:Int) (f:List Int) (B:Bool) (n:Nat) (o:List Int):St:=bA fPB.ntmps [(6,.c (.ptr 0 0 0 0)),(9,.c (.bool B)),(10,.c (.ptr 1 0 0 0))]
 [.live (.cells [.int .i64 0,.nils,.nils]),.live (.cells [.int .i64 l,.sl 2 0 ((f.length:Int).toNat) 1 none,.sl 3 0 n 1 none]),.live (.ints .i64 f),.live (.ints .i64 o)]
theorem a0U (l:Int) (f:List Int) (A:List Int) (B:Bool) (n:Nat) (o:List Int) (i:Int):aH 0 (aA fPB 0) (aD fPB 0) (aK tt (aB T89) ([]) 0 100 (a6 0 (a7 fPB)) (IPB l f A B n o i) [(0,true)])=
  some (.normal,(decide (i<(↑f.length:Int))&&(decide (0≤i)&&(decide (i<8)&&(decide (i.toNat<A.length)&&(decide (n=o.length)&&((decide (n+1≤274877906944))&&true)))))),[],IPB l f A B (n+1) (o++[A.getD i.toNat 0]) (IntKind.i64.wrap (i+1))):=by kernel_rfl
theorem a0V (l:Int) (f:List Int) (A:List Int) (B:Bool) (n:Nat) (o:List Int) (i:Int):aH 0 (aA fPB 0) (aD fPB 0) (aK tt (aB T89) ([]) 0 100 (a6 0 (a7 fPB)) (IPB l f A B n o i) [(0,false)])=
  some (.exit 0,((!decide (i<(↑f.length:Int)))&&true),[],XPB l f B (n) (o)):=by kernel_rfl
def plS (A:List Int) (i:Nat) (o:List Int):List Int:=o++[A.getD i 0]
def plO (A:List Int) (n:Nat):List Int:=bP (plS A) n 0 []
theorem lPB (l:Int) (f:List Int) (A:List Int) (B:Bool) (hA:A.length=8) (hf:f.length≤8):
  aW Tryz.prog 0 (.block 0 (.loop (a6 0 (a7 fPB)))) (IPB l f A B 0 [] 0) fun e t=>e=.normal∧t=XPB l f B (plO A f.length).length (plO A f.length):=by
 refine aW.count hT t89 bM (m:=0) (id:=0) (body:=a6 0 (a7 fPB)) (β:=List Int) f.length (fun i o=>o.length=i) (fun i o=>IPB l f A B o.length o i) (fun o=>XPB l f B o.length o) (plS A) (aA fPB 0) (aD fPB 0) (fun _ _=>[]) (fun _ _ _ _=>aF.nil) (fun i o hi ho=>⟨by simp[plS,ho], ?_⟩) (fun o _=>⟨_,_,⟨_,_,a0V l f A B o.length o f.length,by simp,by simp⟩⟩) [] rfl
 have e:=a0U l f A B o.length o i
 rw[aE (by omega) (by omega),Int.toNat_natCast]at e
 rw[show(plS A i o).length=o.length+1 from by simp[plS]]
 refine⟨_,_,⟨_,_,e, ?_,by simp⟩⟩
 simp only[bS]
 omega
def plK (k l:Int) (f:List Int):List Int:=inK (cL (cG k f) f.length).1 (cL (cG k f) f.length).2.length ((aL k l).getD 0 0) ((aL k l).getD 1 0) ((aL k l).getD 2 0) ((aL k l).getD 3 0)
def plA (k l:Int) (f:List Int):List Int:=plO (yD (ngA (plK k l f))) f.length
theorem a4X (k l:Int) (f:List Int):aG tt (aB T89) ([(0,⟨aA fPB 0,IPB l f (yD (ngA (plK k l f))) (zB (plK k l f)) 0 [] 0,.normal,XPB l f (zB (plK k l f)) (plA k l f).length (plA k l f)⟩)]) 100 fPB [.c (.int .i64 k),.c (.int .i64 l),.c (.view none (.ints .i64 f) f.length 1 none)] [] [(0,true)]=
  some ⟨.tup [.agg [.int .i64 l,.sl 0 0 (↑f.length:Int).toNat 1 none,.sl 1 0 (plA k l f).length 1 none],.c (.bool (bif zB (plK k l f)then fmB l f (plA k l f)else false))],[.live (.ints .i64 f),.live (.ints .i64 (plA k l f))],(decide (f.length≤274877906944)&&(bet k 1 2&&(aM f&&(decide (f.length*4=(cG k f).length)&&(decide (f.length≤8)&&(a9 (cG k f)&&(bet k 1 2&&(bet l 0 7&&(decide ((cL (cG k f) f.length).snd.length≤274877906944)&&(decide ((cL (cG k f) f.length).fst.length=(cL (cG k f) f.length).snd.length*12)&&(a9 (cL (cG k f) f.length).fst&&(a9 [(aL k l).getD 0 0,(aL k l).getD 1 0,(aL k l).getD 2 0,(aL k l).getD 3 0,0,0,0,0,0,0,0,0]&&(i7 (cL (cG k f) f.length).fst (cL (cG k f) f.length).snd.length&&(decide (f.length≤274877906944)&&((decide ((↑f.length:Int)≤(↑f.length:Int))&&(decide ((↑f.length:Int)≤(↑f.length:Int))&&true))&&(decide ((↑f.length:Int)≤274877906944)&&(zB (plK k l f)&&(zB (plK k l f)&&(decide ((↑f.length:Int).toNat=f.length)&&(decide ((plA k l f).length=(plA k l f).length)&&((decide ((plA k l f).length=f.length))&&true))))))))))))))))))))),[IPB l f (yD (ngA (plK k l f))) (zB (plK k l f)) 0 [] 0=IPB l f (yD (ngA (plK k l f))) (zB (plK k l f)) 0 [] 0]⟩:=by kernel_rfl
theorem a4Y (k l:Int) (f:List Int):aG tt (aB T89) ([(0,⟨aA fPB 0,IPB l f (yD (ngA (plK k l f))) (zB (plK k l f)) 0 [] 0,.normal,XPB l f (zB (plK k l f)) (plA k l f).length (plA k l f)⟩)]) 100 fPB [.c (.int .i64 k),.c (.int .i64 l),.c (.view none (.ints .i64 f) f.length 1 none)] [] [(0,false)]=
  some ⟨.tup [.agg [.int .i64 l,.sl 0 0 (↑f.length:Int).toNat 1 none,.sl 1 0 (plA k l f).length 1 none],.c (.bool false)],[.live (.ints .i64 f),.live (.ints .i64 (plA k l f))],(decide (f.length≤274877906944)&&(bet k 1 2&&(aM f&&(decide (f.length*4=(cG k f).length)&&(decide (f.length≤8)&&(a9 (cG k f)&&(bet k 1 2&&(bet l 0 7&&(decide ((cL (cG k f) f.length).snd.length≤274877906944)&&(decide ((cL (cG k f) f.length).fst.length=(cL (cG k f) f.length).snd.length*12)&&(a9 (cL (cG k f) f.length).fst&&(a9 [(aL k l).getD 0 0,(aL k l).getD 1 0,(aL k l).getD 2 0,(aL k l).getD 3 0,0,0,0,0,0,0,0,0]&&(i7 (cL (cG k f) f.length).fst (cL (cG k f) f.length).snd.length&&(decide (f.length≤274877906944)&&((decide ((↑f.length:Int)≤(↑f.length:Int))&&(decide ((↑f.length:Int)≤(↑f.length:Int))&&true))&&(decide ((↑f.length:Int)≤274877906944)&&(!zB (plK k l f)&&(!zB (plK k l f)&&((!zB (plK k l f))&&true))))))))))))))))))),[IPB l f (yD (ngA (plK k l f))) (zB (plK k l f)) 0 [] 0=IPB l f (yD (ngA (plK k l f))) (zB (plK k l f)) 0 [] 0]⟩:=by kernel_rfl
theorem pS {xs:List Int} (hx:a9 xs=true): ∀(f i:Nat) (s:List Int×List Int),s.1.length=s.2.length*12→i7 s.1 s.2.length=true→i7 (fE xs f i s).1 (fE xs f i s).2.length=true
 |0,i,s,_,h=>h
 |f+1,i,s,h1,h=>by
  simp only[fE]
  cases c:decide (ld4 (KK xs s.1 s.2.length i)<0)
  ·refine pS hx f (i+1) _ (by simp[tK,h1];omega) ?_
   have:=of_decide_eq_false c
   rw[cond_false,List.length_append]
   exact vX h1 h (H0 hx _ _ _) (by omega)
  ·exact pS hx f (i+1) _ h1 h
theorem O0 {k:Int} {v:List Int} (hk:bet k 1 2=true) (hv:aM v=true):i7 (spK k v).1 (spK k v).2.length=true:=pS (hB hk hv) _ _ _ rfl rfl
theorem y8 (A:List Int) (n:Nat):(plO A n).length=n:=by
 have: ∀f i o,(bP (plS A) f i o).length=o.length+f:=fun f=>by
  induction f with
  |zero=>intro i o;rfl
  |succ f ih=>intro i o;show(bP (plS A) f (i+1) (plS A i o)).length=_;rw[ih];simp[plS];omega
 have:=this n 0 []
 unfold plO;simpa using this
def plB (k l:Int) (f:List Int):Bool:=bif zB (plK k l f)then fmB l f (plA k l f)else false
def PS:aQ:=fun args h=>
 match args,h with
 |[.c (.int .i64 k),.c (.int .i64 l),.c (.view _ (.ints .i64 f) n 1 _)],[]=>
  some (.tup [.agg [.int .i64 l,.sl 0 0 f.length 1 none,.sl 1 0 (plA k l f).length 1 none],.c (.bool (plB k l f))],[.live (.ints .i64 f),.live (.ints .i64 (plA k l f))],[bet k 1 2,bet l 0 7,aM f,decide (f.length≤8)])
 |_,_=>none
theorem mPB:aV Tryz.prog 165 PS:=by
 intro args h res h' o hnorm he ho
 unfold PS at he
 split at he
 case h_2=>cases he
 rename_i k l nl f n cap
 simp only[Option.some.injEq,Prod.mk.injEq]at he
 obtain⟨rfl,rfl,rfl⟩:=he
 simp only[List.mem_cons,List.not_mem_nil,or_false,forall_eq_or_imp,forall_eq,decide_eq_true_eq]at ho
 obtain⟨o1,o2,o3,o4⟩:=ho
 simp only[bG,AV.norm,bI,aJ.norm,Con.size,List.cons.injEq,AV.c.injEq,AV.agg.injEq,aJ.view.injEq,aN,true_and,and_true]at hnorm
 obtain⟨rfl,rfl,rfl⟩:=hnorm
 obtain⟨s1,s2,s3⟩:=rT o1 o3
 have s4:=O0 o1 o3
 unfold spK at s1 s2 s3 s4
 have la:(plA k l f).length=f.length:=y8 _ _
 have rf:=hR o1 o2
 have hr:a9 [(aL k l).getD 0 0,(aL k l).getD 1 0,(aL k l).getD 2 0,(aL k l).getD 3 0,0,0,0,0,0,0,0,0]=true:=by
  simp only[a9,List.all_cons,List.all_nil,Bool.and_eq_true]
  exact⟨aR rf 0,aR rf 1,aR rf 2,aR rf 3,by decide⟩
 have g:=lPB l f (yD (ngA (plK k l f))) (zB (plK k l f)) rfl o4
 cases hz:zB (plK k l f)with
 |true=>
  exact a5 t89 (by kernel_rfl) (by kernel_rfl) (a4X k l f) (by simp only[o1,o2,o3,o4,s3,s4,hr,hz,la,hB o1 o3,lE,bS];omega) (by simp) (fun cc hcc=>aF.cons (c:=cc) (by cases hcc;kernel_rfl) (by cases hcc;exact g) aF.nil)
 |false=>
  rw[show plB k l f=false from by unfold plB;rw[hz,cond_false]]
  exact a5 t89 (by kernel_rfl) (by kernel_rfl) (a4Y k l f) (by simp only[o1,o2,o3,o4,s3,s4,hr,hz,la,hB o1 o3,lE,bS];omega) (by simp) (fun cc hcc=>aF.cons (c:=cc) (by cases hcc;kernel_rfl) (by cases hcc;exact g) aF.nil)
end
section
noncomputable abbrev fLP:=Tryz.f212
noncomputable def ILP (k l:Int) (f:List Int) (n:Nat) (m:List (List Int)) (i:Int):St:=bA fLP.ntmps [(0,.c (.int .i64 k)),(1,.c (.int .i64 l)),(2,.c (.view none (.ints .i64 f) f.length 1 none)),(6,.c (.ptr 0 0 0 0)),(8,.c (.sl 1 0 n 1 none)),(9,.c (.int .i64 i))] [.live (.cells [.int .i64 0,.nils,.nils]),.live (.ivs .i64 m)]
noncomputable def XLP (k l:Int) (f:List Int) (n:Nat) (m:List (List Int)):St:=bA fLP.ntmps [(0,.c (.int .i64 k)),(1,.c (.int .i64 l)),(2,.c (.view none (.ints .i64 f) f.length 1 none)),(6,.c (.ptr 0 0 0 0)),(8,.c (.sl 1 0 n 1 none))] [.live (.cells [.int .i64 0,.nils,.nils]),.live (.ivs .i64 m)]
theorem a0N (k l:Int) (f:List Int) (n:Nat) (m:List (List Int)) (i:Int):aH 0 (aA fLP 0) (aD fLP 0) (aK tt (aB T89) ([]) 0 100 (a6 0 (a7 fLP)) (ILP k l f n m i) [(0,true)])=
  some (.normal,(decide (i<(↑f.length:Int))&&(decide (0≤i)&&(decide (i<(↑f.length:Int))&&(decide (i.toNat<f.length)&&(bet k 1 2&&(bet (f.getD i.toNat 0) 0 7&&(decide (n=m.length)&&((decide (n+1≤274877906944))&&true)))))))),[],ILP k l f (n+1) (m++[aL k (f.getD i.toNat 0)]) (IntKind.i64.wrap (i+1))):=by kernel_rfl
theorem a0O (k l:Int) (f:List Int) (n:Nat) (m:List (List Int)) (i:Int):aH 0 (aA fLP 0) (aD fLP 0) (aK tt (aB T89) ([]) 0 100 (a6 0 (a7 fLP)) (ILP k l f n m i) [(0,false)])=
  some (.exit 0,((!decide (i<(↑f.length:Int)))&&true),[],XLP k l f (n) (m)):=by kernel_rfl
theorem lLP (k l:Int) (f:List Int) (hk:bet k 1 2=true) (hf:aM f=true) (hl:f.length≤1000):
  aW Tryz.prog 0 (.block 0 (.loop (a6 0 (a7 fLP)))) (ILP k l f 0 [] 0) fun e t=>e=.normal∧t=XLP k l f (rfL k f).length (rfL k f):=by
 refine aW.count hT t89 bM (m:=0) (id:=0) (body:=a6 0 (a7 fLP)) f.length (fun i o=>o.length=i) (fun i o=>ILP k l f o.length o i) (fun o=>XLP k l f o.length o) (rfS k f) (aA fLP 0) (aD fLP 0)
  (fun _ _=>[]) (fun _ _ _ _=>aF.nil) (fun i o hi h=>⟨by simp[rfS,h], ?_⟩) (fun o h=>⟨_,_,⟨_,_,a0O k l f o.length o f.length,by simp,by simp⟩⟩) [] rfl
 have hb:=cD hf hi
 have e:=a0N k l f o.length o i
 rw[aE (by omega) (by omega),Int.toNat_natCast]at e
 unfold rfS
 rw[List.length_append]
 refine⟨_,_,⟨_,_,e, ?_,by simp⟩⟩
 simp only[hk,hb,bS]
 omega
theorem a4K (k l:Int) (f:List Int):aG tt (aB T89) ([(0,⟨aA fLP 0,ILP k l f 0 [] 0,.normal,XLP k l f (rfL k f).length (rfL k f)⟩)]) 100 fLP [.c (.int .i64 k),.c (.int .i64 l),.c (.view none (.ints .i64 f) f.length 1 none)] [] [(0,true)]=
  some ⟨.tup [.agg [.int .i64 0,.nils,.nils],.c (.bool false)],[],(decide ((rfL k f).length=(rfL k f).length)&&(decide ((rfL k f).length≤1000)&&(rA (rfL k f)&&((decide ((↑(bW (rfL k f)).length:Int)<(↑(rfL k f).length:Int)))&&true)))),[ILP k l f 0 [] 0=ILP k l f 0 [] 0]⟩:=by kernel_rfl
theorem a4L (k l:Int) (f:List Int):aG tt (aB T89) ([(0,⟨aA fLP 0,ILP k l f 0 [] 0,.normal,XLP k l f (rfL k f).length (rfL k f)⟩)]) 100 fLP [.c (.int .i64 k),.c (.int .i64 l),.c (.view none (.ints .i64 f) f.length 1 none)] [] [(0,false),(0,true)]=
  some ⟨.tup [.agg [.int .i64 0,.nils,.nils],.c (.bool false)],[],(decide ((rfL k f).length=(rfL k f).length)&&(decide ((rfL k f).length≤1000)&&(rA (rfL k f)&&(!decide ((↑(bW (rfL k f)).length:Int)<(↑(rfL k f).length:Int))&&(bet k 1 2&&(bet l 0 7&&(decide ((rfL k f).length=(rfL k f).length)&&(decide ((rfL k f).length≤1000)&&(bZ 4 (rfL k f)&&(decide ((aL k l).length=4)&&(a9 (aL k l)&&((!byB (rfL k f) (aL k l))&&true)))))))))))),[ILP k l f 0 [] 0=ILP k l f 0 [] 0]⟩:=by kernel_rfl
theorem a4M (k l:Int) (f:List Int):aG tt (aB T89) ([(0,⟨aA fLP 0,ILP k l f 0 [] 0,.normal,XLP k l f (rfL k f).length (rfL k f)⟩)]) 100 fLP [.c (.int .i64 k),.c (.int .i64 l),.c (.view none (.ints .i64 f) f.length 1 none)] [] [(0,false),(0,false)]=
  some ⟨.tup [.agg [.int .i64 l,.sl 0 0 (0+f.length) 1 none,.sl 1 0 (byD (rfL k f) (aL k l)).length 1 none],.c (.bool true)],[.live (.ints .i64 ([]++f)),.live (.ints .i64 (byD (rfL k f) (aL k l)))],(decide ((rfL k f).length=(rfL k f).length)&&(decide ((rfL k f).length≤1000)&&(rA (rfL k f)&&(!decide ((↑(bW (rfL k f)).length:Int)<(↑(rfL k f).length:Int))&&(bet k 1 2&&(bet l 0 7&&(decide ((rfL k f).length=(rfL k f).length)&&(decide ((rfL k f).length≤1000)&&(bZ 4 (rfL k f)&&(decide ((aL k l).length=4)&&(a9 (aL k l)&&(!!byB (rfL k f) (aL k l)&&((decide (0+f.length≤274877906944))&&true))))))))))))),[ILP k l f 0 [] 0=ILP k l f 0 [] 0]⟩:=by kernel_rfl
def kC (b:Bool) (x:List Int):List Int:=bif b then x else []
def slB (k l:Int) (f:List Int):Bool:=bif decide (((bW (rfL k f)).length:Int)<((rfL k f).length:Int))then false else byB (rfL k f) (aL k l)
def slA (k l:Int) (f:List Int):List Int:=byD (rfL k f) (aL k l)
def PN:aQ:=fun args h=>
 match args,h with
 |[.c (.int .i64 k),.c (.int .i64 l),.c (.view _ (.ints .i64 f) n 1 _)],[]=>
  some (.tup [.agg [.int .i64 (bif slB k l f then l else 0),.sl 0 0 (kC (slB k l f) f).length 1 none,.sl 1 0 (kC (slB k l f) (slA k l f)).length 1 none],.c (.bool (slB k l f))],[.live (.ints .i64 (kC (slB k l f) f)),.live (.ints .i64 (kC (slB k l f) (slA k l f)))],[bet k 1 2,bet l 0 7,aM f,decide (f.length≤8),rA (rfL k f)])
 |_,_=>none
theorem mLP:aV Tryz.prog 212 PN:=by
 intro args h res h' o hnorm he ho
 unfold PN at he
 split at he
 case h_2=>cases he
 rename_i k l nl f n cap
 simp only[Option.some.injEq,Prod.mk.injEq]at he
 obtain⟨rfl,rfl,rfl⟩:=he
 simp only[List.mem_cons,List.not_mem_nil,or_false,forall_eq_or_imp,forall_eq,decide_eq_true_eq]at ho
 obtain⟨o1,o2,o3,o4,o5⟩:=ho
 simp only[bG,AV.norm,bI,aJ.norm,Con.size,List.cons.injEq,AV.c.injEq,AV.agg.injEq,aJ.view.injEq,aN,true_and,and_true]at hnorm
 obtain⟨rfl,rfl,rfl⟩:=hnorm
 obtain⟨r1,r2⟩:=EE o1 o3
 have q1:=j4 o1 o2
 have q2:=hR o1 o2
 have bad:bE Tryz.prog 212 [.c (.int .i64 k),.c (.int .i64 l),.c (.view none (.ints .i64 f) f.length 1 none)] [] (.tup [.agg [.int .i64 0,.nils,.nils],.c (.bool false)]) []→slB k l f=false→
   bE Tryz.prog 212 [.c (.int .i64 k),.c (.int .i64 l),.c (.view none (.ints .i64 f) f.length 1 none)] [] (.tup [.agg [.int .i64 (bif slB k l f then l else 0),.sl 0 0 (kC (slB k l f) f).length 1 none,.sl 1 0 (kC (slB k l f) (slA k l f)).length 1 none],.c (.bool (slB k l f))]) [.live (.ints .i64 (kC (slB k l f) f)),.live (.ints .i64 (kC (slB k l f) (slA k l f)))]:=fun hm h=>by
  rw[h];exact(hm.nil1 (es:=1) (c0:=.ints .i64 []) rfl rfl).nil1 (es:=1) (c0:=.ints .i64 []) rfl rfl
 have lo: ∀cc,a7 fLP=cc→aF Tryz.prog 0 [(0,⟨aA fLP 0,ILP k l f 0 [] 0,.normal,XLP k l f (rfL k f).length (rfL k f)⟩)] cc:=fun cc h=>by
  subst h
  exact aF.cons (by kernel_rfl) (lLP k l f o1 o3 (by omega)) aF.nil
 cases c1:decide (((bW (rfL k f)).length:Int)<((rfL k f).length:Int))with
 |true=>
  exact bad (a5 t89 (by kernel_rfl) (by kernel_rfl) (a4K k l f) (by simp only[o5,c1,bS];omega) (by simp) (fun cc hcc=>lo cc (by cases hcc;rfl))) (by unfold slB;rw[c1,cond_true])
 |false=>
  cases c2:byB (rfL k f) (aL k l)with
  |false=>
   exact bad (a5 t89 (by kernel_rfl) (by kernel_rfl) (a4L k l f) (by simp only[o1,o2,o5,c1,c2,r2,q1,q2,decide_true,bS];omega) (by simp) (fun cc hcc=>lo cc (by cases hcc;rfl))) (by unfold slB;rw[c1,cond_false,c2])
  |true=>
   have e:slB k l f=true:=by unfold slB;rw[c1,cond_false,c2]
   rw[e]
   have m:=a5 (f:=212) t89 (by kernel_rfl) (by kernel_rfl) (a4M k l f) (by simp only[o1,o2,o5,c1,c2,r2,q1,q2,decide_true,bS];omega) (by simp) (fun cc hcc=>lo cc (by cases hcc;rfl))
   rw[Nat.zero_add]at m
   exact m
noncomputable def T90:List bF:=[⟨165,[],nm PS⟩,⟨212,[],nm PN⟩]++T89
theorem e90:a8 Tryz.prog T90:=by
 refine a8.append ?_ e89
 intro e he
 simp only[List.mem_cons,List.not_mem_nil,or_false]at he
 rcases he with rfl|rfl
 ·exact mPB.ok
 ·exact mLP.ok
end
end Go.Proofs.YthapjdpkelihiaaGreat.Am
