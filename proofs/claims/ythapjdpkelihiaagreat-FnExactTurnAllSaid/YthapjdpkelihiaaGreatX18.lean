/- DERIVED. Part 18 of the proof: C67, Am34, C68, C69, C70, C71, C72, C73, C74, P12, P13, P14, P15, P16, P17, P18, Am35, C89, P19, L1. No statement of the program is proved here. -/
import Derived.Test.YthapjdpkelihiaaGreatX17
import Derived.Test.YthapjdpkelihiaaGreatRows
import Derived.WalkKit
import Derived.ProofKit
import Derived.OpenShut
import Derived.ShutString
import Derived.ChangeOld
import Derived.Below
set_option linter.unusedSimpArgs false
set_option linter.unusedVariables false
set_option linter.unusedSectionVars false
section
namespace Go.Proofs.YthapjdpkelihiaaGreat.Am
def FFknew:Model:=fun args h=>
 match args,h with
 |[.c (.int .i64 k),.c (.view _ (.ints .i64 v) n 1 _)],[]=>
  some (.tup [.agg (snK k v 1).cells,.c (.bool (snB k v 1))],[.live (.ints .i64 (snK k v 1).a),.live (.ints .i64 (snK k v 1).b),.live (.bools (snK k v 1).c),.live (.ints .i64 (snK k v 1).d)],[decide (v.length≤274877906944)])
 |_,_=>none
theorem m95:ModelN Tryz.prog 106 FFknew:=by
 intro args h res h' o hnorm he ho
 unfold FFknew at he
 split at he
 case h_2=>cases he
 rename_i k nl v n cap
 simp only[Option.some.injEq,Prod.mk.injEq]at he
 obtain⟨rfl,rfl,rfl⟩:=he
 simp only[List.mem_cons,List.not_mem_nil,or_false,forall_eq_or_imp,forall_eq,decide_eq_true_eq]at ho
 have o1:=ho
 simp only[normA,AV.norm,normL,Cell.norm,Con.size,List.cons.injEq,AV.c.injEq,AV.agg.injEq,Cell.view.injEq,nlen_one,true_and,and_true]at hnorm
 obtain⟨rfl,rfl,rfl⟩:=hnorm
 have sp: ∀b,snB k v 1=b→snK k v 1=bif b then⟨k,encL k v,rep8 1,rep8 true,false,0,[],0⟩else PK0:=fun b h=>by unfold snK;rw[h]
 cases h:snB k v 1 with
 |false=>
  rw[sp _ h]
  exact zeroT (meets_of t70 (by kernel_rfl) (by kernel_rfl) (x95_1 k v) (by simp only[h,o1,bS]) (by simp) (fun cc _=>LcOk.nil))
 |true=>
  have e:=x95_2 k v
  rw[sp _ h]at e⊢
  exact meets_of t70 (by kernel_rfl) (by kernel_rfl) e (by simp only[h,o1,bS]) (by simp) (fun cc _=>LcOk.nil)
theorem x52s_1 (k:Int) (a b:List Int) (c:List Bool) (on:Bool) (kd:Int) (d:List Int) (vs:Int) (x:Int):evalF tt (ctOf T61) ([]) 100 Tryz.f105 [.agg [.int .i64 k,.view none (.ints .i64 a) a.length 1 none,.view none (.ints .i64 b) b.length 1 none,.view none (.bools c) c.length 1 none,.bool on,.int .i64 kd,.view none (.ints .i64 d) d.length 1 none,.int .i64 vs],.c (.int .i64 x)] [] []=
  some ⟨.agg [.int .i64 k,.sl 0 0 a.length 1 none,.sl 1 0 b.length 1 none,.sl 2 0 c.length 1 none,.bool on,.int .i64 kd,.sl 3 0 d.length 1 none,.int .i64 vs],[.live (.ints .i64 (a.set x.toNat ((cdL kd d).getD x.toNat 0))),.live (.ints .i64 (b.set x.toNat vs)),.live (.bools (c.set x.toNat true)),.live (.ints .i64 d)],(decide (a.length≤274877906944)&&(decide (b.length≤274877906944)&&(decide (c.length≤274877906944)&&(decide (d.length≤274877906944)&&(bet kd 1 2&&(decide (d.length=4)&&(allFok d&&(decide (0≤x)&&(decide (x<8)&&(decide (x.toNat<(cdL kd d).length)&&(decide (0≤x)&&(decide (x<(↑a.length:Int))&&(decide (x.toNat<a.length)&&(decide (0≤x)&&(decide (x<(↑b.length:Int))&&(decide (x.toNat<b.length)&&(decide (0≤x)&&(decide (x<(↑c.length:Int))&&((decide (x.toNat<c.length))&&true))))))))))))))))))),[]⟩:=by kernel_rfl
def FFshR:Model:=fun args h=>
 match args,h with
 |[.agg [.int .i64 k,.view _ (.ints .i64 a) n1 1 _,.view _ (.ints .i64 b) n2 1 _,.view _ (.bools c) n3 1 _,.bool on,.int .i64 kd,.view _ (.ints .i64 d) n4 1 _,.int .i64 vs],.c (.int .i64 x)],[]=>
  some (.agg (shR ⟨k,a,b,c,on,kd,d,vs⟩ x).cells,[.live (.ints .i64 (shR ⟨k,a,b,c,on,kd,d,vs⟩ x).a),.live (.ints .i64 (shR ⟨k,a,b,c,on,kd,d,vs⟩ x).b),.live (.bools (shR ⟨k,a,b,c,on,kd,d,vs⟩ x).c),.live (.ints .i64 (shR ⟨k,a,b,c,on,kd,d,vs⟩ x).d)],[decide (a.length=8),decide (b.length=8),decide (c.length=8),bet kd 1 2,elsOk d 4,bet x 0 7])
 |_,_=>none
theorem m52:ModelN Tryz.prog 105 FFshR:=by
 intro args h res h' o hnorm he ho
 unfold FFshR at he
 split at he
 case h_2=>cases he
 rename_i k nl1 a n1 cap1 nl2 b n2 cap2 nl3 c n3 cap3 on kd nl4 d n4 cap4 vs x
 simp only[Option.some.injEq,Prod.mk.injEq]at he
 obtain⟨rfl,rfl,rfl⟩:=he
 simp only[List.mem_cons,List.not_mem_nil,or_false,forall_eq_or_imp,forall_eq,decide_eq_true_eq]at ho
 obtain⟨o1,o2,o3,o4,o5,o6⟩:=ho
 simp only[normA,AV.norm,normL,Cell.norm,Con.size,List.cons.injEq,AV.c.injEq,AV.agg.injEq,Cell.view.injEq,nlen_one,true_and,and_true]at hnorm
 obtain⟨⟨rfl,rfl,rfl⟩,⟨rfl,rfl,rfl⟩,⟨rfl,rfl,rfl⟩,rfl,rfl,rfl⟩:=hnorm
 have hx':=bet_iff.1 o6
 obtain⟨hf,hd4⟩:=els_iff o5
 have hcd:(cdL kd d).length=8:=rfl
 have mm:=meets_of (f:=105) t61 (by kernel_rfl) (by kernel_rfl) (x52s_1 k a b c on kd d vs x) (by simp only[o1,o2,o3,o4,hf,hd4,hcd,bS];omega) (by simp) (fun cc _=>LcOk.nil)
 rw[cd_enc o4,←encI_eq o5]at mm
 have e1:(a.set x.toNat ((encI kd d).getD x.toNat 0)).length=a.length:=List.length_set
 have e2:(b.set x.toNat vs).length=b.length:=List.length_set
 have e3:(c.set x.toNat true).length=c.length:=List.length_set
 show Meets _ _ _ _ (.agg [.int .i64 k,.sl 0 0 (a.set x.toNat ((encI kd d).getD x.toNat 0)).length 1 none,.sl 1 0 (b.set x.toNat vs).length 1 none,.sl 2 0 (c.set x.toNat true).length 1 none,.bool on,.int .i64 kd,.sl 3 0 d.length 1 none,.int .i64 vs]) _
 rw[e1,e2,e3]
 exact mm
noncomputable def T71:List Entry:=[⟨106,[],nm FFknew⟩,⟨105,[],nm FFshR⟩]++T70
theorem e71:EntriesOk Tryz.prog T71:=by
 refine EntriesOk.append ?_ e70
 intro e he
 simp only[List.mem_cons,List.not_mem_nil,or_false]at he
 rcases he with rfl|rfl
 ·exact m95.ok
 ·exact m52.ok
theorem t71:CtOk Tryz.prog (ctOf T71):=ctOf_ok e71
noncomputable abbrev f46:=Tryz.f46
noncomputable def I46 (b:List Int) (n:Nat) (p:Int) (x:PK) (m:Int):St:=
 stOf f46.ntmps [(0,.c (.ptr 0 0 0 0)),(2,.c (.ptr 1 0 0 0)),(3,.c (.ptr 2 0 0 0)),(5,.c (.int .i64 m))] [.live (.cells [.view none (.ints .u8 b) n 1 none,.int .i64 p]),.live (.cells [.int .i64 0,.nils,.nils,.nils,.bool false,.int .i64 0,.nils,.int .i64 0]),.live (.cells [.int .i64 x.k,.sl 3 0 x.a.length 1 none,.sl 4 0 x.b.length 1 none,.sl 5 0 x.c.length 1 none,.bool x.on,.int .i64 x.kd,.sl 6 0 x.d.length 1 none,.int .i64 x.vs]),.live (.ints .i64 x.a),.live (.ints .i64 x.b),.live (.bools x.c),.live (.ints .i64 x.d)]
noncomputable def X46 (b:List Int) (n:Nat) (p:Int) (x:PK):St:=
 stOf f46.ntmps [(0,.c (.ptr 0 0 0 0)),(2,.c (.ptr 1 0 0 0)),(3,.c (.ptr 2 0 0 0))] [.live (.cells [.view none (.ints .u8 b) n 1 none,.int .i64 p]),.live (.cells [.int .i64 0,.nils,.nils,.nils,.bool false,.int .i64 0,.nils,.int .i64 0]),.live (.cells [.int .i64 x.k,.sl 3 0 x.a.length 1 none,.sl 4 0 x.b.length 1 none,.sl 5 0 x.c.length 1 none,.bool x.on,.int .i64 x.kd,.sl 6 0 x.d.length 1 none,.int .i64 x.vs]),.live (.ints .i64 x.a),.live (.ints .i64 x.b),.live (.bools x.c),.live (.ints .i64 x.d)]
theorem r46_1 (b:List Int) (n:Nat) (p:Int) (x:PK) (m:Int):roundR 1 (liveH f46 0) (liveB' f46 0) (evalC tt (ctOf T71) ([]) 1 100 (bodyAt 0 (codeOf f46)) (I46 b n p x m) [(0,true),(0,true),(0,true),(0,true)])=
  some (.normal,(decide (m>0)&&(decide (n=b.length)&&(byteB b&&(decide (0≤p)&&(decide (p≤1000000)&&((pk b p 7==0)&&((pk b p 7==0)&&(decide (n=b.length)&&(byteB b&&(decide (0≤p+1)&&(decide (p+1≤1000000)&&(decide (n=b.length)&&(byteB b&&(decide (0≤p+1+1)&&(decide (p+1+1≤900000)&&(decide (x.2.length=x.2.length)&&(decide (x.3.length=x.3.length)&&(decide (x.4.length=x.4.length)&&(decide (x.7.length=x.7.length)&&(decide (x.2.length≤274877906944)&&(decide (x.7.length≤274877906944)&&((begB x (IntKind.i64.wrap (1+pk b (p+1) 2)) (d4L b (p+1+1)))&&true)))))))))))))))))))))),[],I46 b n (p+1+1+4) (begK x (IntKind.i64.wrap (1+pk b (p+1) 2)) (d4L b (p+1+1))) (IntKind.i64.wrap (m-1))):=by kernel_rfl
theorem r46_2 (b:List Int) (n:Nat) (p:Int) (x:PK) (m:Int):roundR 1 (liveH f46 0) (liveB' f46 0) (evalC tt (ctOf T71) ([]) 1 100 (bodyAt 0 (codeOf f46)) (I46 b n p x m) [(0,true),(0,true),(0,true),(0,false)])=
  some (.normal,(decide (m>0)&&(decide (n=b.length)&&(byteB b&&(decide (0≤p)&&(decide (p≤1000000)&&((pk b p 7==0)&&((pk b p 7==0)&&(decide (n=b.length)&&(byteB b&&(decide (0≤p+1)&&(decide (p+1≤1000000)&&(decide (n=b.length)&&(byteB b&&(decide (0≤p+1+1)&&(decide (p+1+1≤900000)&&(decide (x.2.length=x.2.length)&&(decide (x.3.length=x.3.length)&&(decide (x.4.length=x.4.length)&&(decide (x.7.length=x.7.length)&&(decide (x.2.length≤274877906944)&&(decide (x.7.length≤274877906944)&&((!begB x (IntKind.i64.wrap (1+pk b (p+1) 2)) (d4L b (p+1+1)))&&true)))))))))))))))))))))),[],I46 b n (p+1+1+4) x (IntKind.i64.wrap (m-1))):=by kernel_rfl
theorem r46_3 (b:List Int) (n:Nat) (p:Int) (x:PK) (m:Int):roundR 1 (liveH f46 0) (liveB' f46 0) (evalC tt (ctOf T71) ([]) 1 100 (bodyAt 0 (codeOf f46)) (I46 b n p x m) [(0,true),(0,false),(0,true),(0,true)])=
  some (.normal,(decide (m>0)&&(decide (n=b.length)&&(byteB b&&(decide (0≤p)&&(decide (p≤1000000)&&((!pk b p 7==0)&&((pk b p 7==1)&&(decide (n=b.length)&&(byteB b&&(decide (0≤p+1)&&(decide (p+1≤1000000)&&(decide (n=b.length)&&(byteB b&&(decide (0≤p+1+1)&&(decide (p+1+1≤900000)&&(decide (x.2.length=x.2.length)&&(decide (x.3.length=x.3.length)&&(decide (x.4.length=x.4.length)&&(decide (x.7.length=x.7.length)&&(decide (x.2.length≤274877906944)&&(decide (x.7.length≤274877906944)&&((begB x (IntKind.i64.wrap (1+pk b (p+1) 2)) (d4L b (p+1+1)))&&true)))))))))))))))))))))),[],I46 b n (p+1+1+4) (begK x (IntKind.i64.wrap (1+pk b (p+1) 2)) (d4L b (p+1+1))) (IntKind.i64.wrap (m-1))):=by kernel_rfl
theorem r46_4 (b:List Int) (n:Nat) (p:Int) (x:PK) (m:Int):roundR 1 (liveH f46 0) (liveB' f46 0) (evalC tt (ctOf T71) ([]) 1 100 (bodyAt 0 (codeOf f46)) (I46 b n p x m) [(0,true),(0,false),(0,true),(0,false)])=
  some (.normal,(decide (m>0)&&(decide (n=b.length)&&(byteB b&&(decide (0≤p)&&(decide (p≤1000000)&&((!pk b p 7==0)&&((pk b p 7==1)&&(decide (n=b.length)&&(byteB b&&(decide (0≤p+1)&&(decide (p+1≤1000000)&&(decide (n=b.length)&&(byteB b&&(decide (0≤p+1+1)&&(decide (p+1+1≤900000)&&(decide (x.2.length=x.2.length)&&(decide (x.3.length=x.3.length)&&(decide (x.4.length=x.4.length)&&(decide (x.7.length=x.7.length)&&(decide (x.2.length≤274877906944)&&(decide (x.7.length≤274877906944)&&((!begB x (IntKind.i64.wrap (1+pk b (p+1) 2)) (d4L b (p+1+1)))&&true)))))))))))))))))))))),[],I46 b n (p+1+1+4) x (IntKind.i64.wrap (m-1))):=by kernel_rfl
theorem r46_5 (b:List Int) (n:Nat) (p:Int) (x:PK) (m:Int):roundR 1 (liveH f46 0) (liveB' f46 0) (evalC tt (ctOf T71) ([]) 1 100 (bodyAt 0 (codeOf f46)) (I46 b n p x m) [(0,true),(0,false),(0,false),(0,true),(0,true),(0,true)])=
  some (.normal,(decide (m>0)&&(decide (n=b.length)&&(byteB b&&(decide (0≤p)&&(decide (p≤1000000)&&((!pk b p 7==0)&&((!pk b p 7==1)&&((pk b p 7==2)&&((pk b p 7==2)&&((x.5)&&(decide (n=b.length)&&(byteB b&&(decide (0≤p+1)&&(decide (p+1≤1000000)&&(decide (x.2.length=x.2.length)&&(decide (x.3.length=x.3.length)&&(decide (x.4.length=x.4.length)&&(decide (x.7.length=x.7.length)&&(decide (x.2.length=8)&&(decide (x.3.length=8)&&(decide (x.4.length=8)&&(bet x.6 1 2&&(elsOk x.7 4&&((bet (pk b (p+1) 8) 0 7)&&true)))))))))))))))))))))))),[],I46 b n (p+1+1) (shR x (pk b (p+1) 8)) (IntKind.i64.wrap (m-1))):=by kernel_rfl
theorem r46_6 (b:List Int) (n:Nat) (p:Int) (x:PK) (m:Int):roundR 1 (liveH f46 0) (liveB' f46 0) (evalC tt (ctOf T71) ([]) 1 100 (bodyAt 0 (codeOf f46)) (I46 b n p x m) [(0,true),(0,false),(0,false),(0,true),(0,true),(0,false)])=
  some (.normal,(decide (m>0)&&(decide (n=b.length)&&(byteB b&&(decide (0≤p)&&(decide (p≤1000000)&&((!pk b p 7==0)&&((!pk b p 7==1)&&((pk b p 7==2)&&((pk b p 7==2)&&((!x.5)&&true)))))))))),[],I46 b n (p+1) x (IntKind.i64.wrap (m-1))):=by kernel_rfl
theorem r46_7 (b:List Int) (n:Nat) (p:Int) (x:PK) (m:Int):roundR 1 (liveH f46 0) (liveB' f46 0) (evalC tt (ctOf T71) ([]) 1 100 (bodyAt 0 (codeOf f46)) (I46 b n p x m) [(0,true),(0,false),(0,false),(0,false),(0,true),(0,true),(0,true)])=
  some (.normal,(decide (m>0)&&(decide (n=b.length)&&(byteB b&&(decide (0≤p)&&(decide (p≤1000000)&&((!pk b p 7==0)&&((!pk b p 7==1)&&((!pk b p 7==2)&&((pk b p 7==3)&&((pk b p 7==3)&&((x.5)&&(decide (n=b.length)&&(byteB b&&(decide (0≤p+1)&&(decide (p+1≤1000000)&&(decide (x.2.length=x.2.length)&&(decide (x.3.length=x.3.length)&&(decide (x.4.length=x.4.length)&&(decide (x.7.length=x.7.length)&&(decide (x.2.length=8)&&(decide (x.3.length=8)&&(decide (x.4.length=8)&&(bet x.6 1 2&&(elsOk x.7 4&&((bet (pk b (p+1) 8) 0 7)&&true))))))))))))))))))))))))),[],I46 b n (p+1+1) (shR x (pk b (p+1) 8)) (IntKind.i64.wrap (m-1))):=by kernel_rfl
theorem r46_8 (b:List Int) (n:Nat) (p:Int) (x:PK) (m:Int):roundR 1 (liveH f46 0) (liveB' f46 0) (evalC tt (ctOf T71) ([]) 1 100 (bodyAt 0 (codeOf f46)) (I46 b n p x m) [(0,true),(0,false),(0,false),(0,false),(0,true),(0,true),(0,false)])=
  some (.normal,(decide (m>0)&&(decide (n=b.length)&&(byteB b&&(decide (0≤p)&&(decide (p≤1000000)&&((!pk b p 7==0)&&((!pk b p 7==1)&&((!pk b p 7==2)&&((pk b p 7==3)&&((pk b p 7==3)&&((!x.5)&&true))))))))))),[],I46 b n (p+1) x (IntKind.i64.wrap (m-1))):=by kernel_rfl
theorem r46_9 (b:List Int) (n:Nat) (p:Int) (x:PK) (m:Int):roundR 1 (liveH f46 0) (liveB' f46 0) (evalC tt (ctOf T71) ([]) 1 100 (bodyAt 0 (codeOf f46)) (I46 b n p x m) [(0,true),(0,false),(0,false),(0,false),(0,false),(0,true),(0,true)])=
  some (.normal,(decide (m>0)&&(decide (n=b.length)&&(byteB b&&(decide (0≤p)&&(decide (p≤1000000)&&((!pk b p 7==0)&&((!pk b p 7==1)&&((!pk b p 7==2)&&((!pk b p 7==3)&&((pk b p 7==4)&&((x.5)&&(decide (n=b.length)&&(byteB b&&(decide (0≤p+1)&&(decide (p+1≤1000000)&&(decide (x.2.length=x.2.length)&&(decide (x.3.length=x.3.length)&&(decide (x.4.length=x.4.length)&&(decide (x.7.length=x.7.length)&&(decide (x.2.length=8)&&(decide (x.3.length=8)&&(decide (x.4.length=8)&&(bet x.6 1 2&&(elsOk x.7 4&&((bet (pk b (p+1) 8) 0 7)&&true))))))))))))))))))))))))),[],I46 b n (p+1+1) (shR x (pk b (p+1) 8)) (IntKind.i64.wrap (m-1))):=by kernel_rfl
theorem r46_10 (b:List Int) (n:Nat) (p:Int) (x:PK) (m:Int):roundR 1 (liveH f46 0) (liveB' f46 0) (evalC tt (ctOf T71) ([]) 1 100 (bodyAt 0 (codeOf f46)) (I46 b n p x m) [(0,true),(0,false),(0,false),(0,false),(0,false),(0,true),(0,false)])=
  some (.normal,(decide (m>0)&&(decide (n=b.length)&&(byteB b&&(decide (0≤p)&&(decide (p≤1000000)&&((!pk b p 7==0)&&((!pk b p 7==1)&&((!pk b p 7==2)&&((!pk b p 7==3)&&((pk b p 7==4)&&((!x.5)&&true))))))))))),[],I46 b n (p+1) x (IntKind.i64.wrap (m-1))):=by kernel_rfl
theorem r46_11 (b:List Int) (n:Nat) (p:Int) (x:PK) (m:Int):roundR 1 (liveH f46 0) (liveB' f46 0) (evalC tt (ctOf T71) ([]) 1 100 (bodyAt 0 (codeOf f46)) (I46 b n p x m) [(0,true),(0,false),(0,false),(0,false),(0,false),(0,false),(0,true)])=
  some (.normal,(decide (m>0)&&(decide (n=b.length)&&(byteB b&&(decide (0≤p)&&(decide (p≤1000000)&&((!pk b p 7==0)&&((!pk b p 7==1)&&((!pk b p 7==2)&&((!pk b p 7==3)&&((!pk b p 7==4)&&((pk b p 7==5)&&(decide (n=b.length)&&(byteB b&&(decide (0≤p+1)&&(decide (p+1≤1000000)&&(decide (x.2.length=x.2.length)&&(decide (x.3.length=x.3.length)&&(decide (x.4.length=x.4.length)&&(decide (x.7.length=x.7.length)&&(decide (x.2.length≤274877906944)&&((decide (x.7.length≤274877906944))&&true))))))))))))))))))))),[],I46 b n (p+1+1) (loseK x (pk b (p+1) 8)) (IntKind.i64.wrap (m-1))):=by kernel_rfl
theorem r46_12 (b:List Int) (n:Nat) (p:Int) (x:PK) (m:Int):roundR 1 (liveH f46 0) (liveB' f46 0) (evalC tt (ctOf T71) ([]) 1 100 (bodyAt 0 (codeOf f46)) (I46 b n p x m) [(0,true),(0,false),(0,false),(0,false),(0,false),(0,false),(0,false),(0,true)])=
  some (.normal,(decide (m>0)&&(decide (n=b.length)&&(byteB b&&(decide (0≤p)&&(decide (p≤1000000)&&((!pk b p 7==0)&&((!pk b p 7==1)&&((!pk b p 7==2)&&((!pk b p 7==3)&&((!pk b p 7==4)&&((!pk b p 7==5)&&(decide (n=b.length)&&(byteB b&&(decide (0≤p+1)&&(decide (p+1≤1000000)&&((pk b (p+1) 3==0)&&(decide (x.2.length=x.2.length)&&(decide (x.3.length=x.3.length)&&(decide (x.4.length=x.4.length)&&(decide (x.7.length=x.7.length)&&(decide (x.2.length≤274877906944)&&((decide (x.7.length≤274877906944))&&true)))))))))))))))))))))),[],I46 b n (p+1+1) (redoK x) (IntKind.i64.wrap (m-1))):=by kernel_rfl
theorem r46_13 (b:List Int) (n:Nat) (p:Int) (x:PK) (m:Int):roundR 1 (liveH f46 0) (liveB' f46 0) (evalC tt (ctOf T71) ([]) 1 100 (bodyAt 0 (codeOf f46)) (I46 b n p x m) [(0,true),(0,false),(0,false),(0,false),(0,false),(0,false),(0,false),(0,false)])=
  some (.normal,(decide (m>0)&&(decide (n=b.length)&&(byteB b&&(decide (0≤p)&&(decide (p≤1000000)&&((!pk b p 7==0)&&((!pk b p 7==1)&&((!pk b p 7==2)&&((!pk b p 7==3)&&((!pk b p 7==4)&&((!pk b p 7==5)&&(decide (n=b.length)&&(byteB b&&(decide (0≤p+1)&&(decide (p+1≤1000000)&&((!pk b (p+1) 3==0)&&true)))))))))))))))),[],I46 b n (p+1+1) x (IntKind.i64.wrap (m-1))):=by kernel_rfl
theorem r46_14 (b:List Int) (n:Nat) (p:Int) (x:PK) (m:Int):roundR 1 (liveH f46 0) (liveB' f46 0) (evalC tt (ctOf T71) ([]) 1 100 (bodyAt 0 (codeOf f46)) (I46 b n p x m) [(0,false)])=
  some (.exit 0,((!decide (m>0))&&true),[],X46 b n (p) x):=by kernel_rfl
end Go.Proofs.YthapjdpkelihiaaGreat.Am
end
section
namespace Go.Proofs.YthapjdpkelihiaaGreat.Am
theorem Meets.froz1 {P:Program} {f:FuncId} {args:List AV} {h h':List Slot} {cs:List Cell} (hm:Meets P f args h (.agg cs) h') {j id len:Nat} {c:Con} (hj:cs.getD j .any=.sl id 0 len 1 none) (hjl:j<cs.length) (hs:Heap.get h' id=.live c) (hf:c.free=true) (hz:len=c.size):
  Meets P f args h (.agg (cs.set j (.view none c len 1 none))) (h'.set id .dead):=by
 refine⟨hm.1,fun {X w0 ρ0} m vs hl' hv=> ?_⟩
 refine Calls.mono (hm.2 m vs hl' hv) ?_
 rintro e w' ⟨v,ρ',rfl,mb,im,m',hx⟩
 obtain⟨mo,m2⟩:=m'.kill (id:=id) (by rw[hs];simp)
 refine⟨v,upd ρ' id .dead,rfl,mb.trans mo.toB,im.trans mo.ids,m2, ?_⟩
 cases hx with
 |agg cs us hus hx=>
  refine .agg _ us (by rw[List.length_set];exact hus) fun i hi=> ?_
  rw[List.length_set]at hi
  have hxi:=hx i hi
  by_cases ei:j=i
  ·subst ei
   have e1:(cs.set j (.view none c len 1 none)).getD j .any=.view none c len 1 none:=by
    rw[List.getD_eq_getElem?_getD,List.getElem?_set_self hi];rfl
   rw[e1]
   rw[hj]at hxi
   have nl: ∀b,ρ' id=.row b→ ¬(liveB (upd ρ' id .dead) b∨X b):=by
    rintro b hb (⟨q,hq⟩|hxb)
    ·by_cases eq:q=id
     ·subst eq;rw[upd_same]at hq;cases hq
     ·rw[upd_ne _ _ eq]at hq;exact eq (m'.inj q id b hq hb)
    ·exact m'.notX hb hxb
   revert hxi
   generalize us.getD j undef=u
   intro hxi
   rcases live_sl m' hs hxi with⟨b,k,ty,n,hb,rfl,⟨ds,ty',hrow,hsz,hcs⟩,hsh,hn,hlc,hcap⟩|⟨ad,rfl,rfl,hcap⟩
   ·rw[Nat.zero_mul]
    refine .view none c len 1 none b 0 k (fun q=>ds.getD q undef) (fun _ h=>nl b hb h) (fun q hq=> ?_) (fun q hq=> ?_) (by omega) hlc (fun _ h=>by cases h) (fun _ h=>by cases h)
    ·have hq':q<ds.size:=by omega
     simp[World.cell?,hrow,Array.getD,hq']
    ·exact CR0.mono (mo.toB.or X) ((hcs q hq).free (free_cell hf q)) (IdMono.noIds _)
   ·exact .viewNone none c 1 none ad 0 hz.symm (fun _ h=>by cases h) (fun _ h=>by cases h) (fun _=>rfl)
  ·have e1:(cs.set j (.view none c len 1 none)).getD i .any=cs.getD i .any:=by
    rw[List.getD_eq_getElem?_getD,List.getElem?_set_ne ei,←List.getD_eq_getElem?_getD]
   rw[e1]
   exact hxi.mono mo
theorem Meets.addDead {P:Program} {f:FuncId} {args:List AV} {h h':List Slot} {res:AV} (hm:Meets P f args h res h'):Meets P f args h res (h'++[.dead]):=by
 refine⟨hm.1,fun {X w0 ρ0} m vs hl hv=> ?_⟩
 refine Calls.mono (hm.2 m vs hl hv) ?_
 rintro e w' ⟨v,ρ',rfl,mb,im,m',hx⟩
 obtain⟨hun,m2⟩:=m'.addNil (c0:=.ints .i64 []) rfl
 have mo:=new_mono w' hun
 have hg:Heap.get (h'++[.live (.ints .i64 [])]) h'.length=.live (.ints .i64 []):=by
  unfold Heap.get
  rw[List.getD_eq_getElem?_getD,List.getElem?_append_right (Nat.le_refl _)];simp
 obtain⟨mo2,m3⟩:=m2.kill (id:=h'.length) (by rw[hg];simp)
 have e:(h'++[Slot.live (.ints .i64 [])]).set h'.length .dead=h'++[.dead]:=by
  rw[List.set_append_right _ _ (Nat.le_refl _)];simp
 rw[e]at m3
 exact⟨v,_,rfl,(mb.trans mo.toB).trans mo2.toB,(im.trans mo.ids).trans mo2.ids,m3,(hx.mono mo).mono mo2⟩
end Go.Proofs.YthapjdpkelihiaaGreat.Am
end
section
namespace Go.Proofs.YthapjdpkelihiaaGreat.Am
def kpS (b:List Int) (_:Nat) (s:PK×Int):PK×Int:=
 bif pk b s.2 7==0||pk b s.2 7==1 then(bif begB s.1 (1+pk b (s.2+1) 2) (d4L b (s.2+2))then begK s.1 (1+pk b (s.2+1) 2) (d4L b (s.2+2))else s.1,s.2+6)else
 bif pk b s.2 7==2||(pk b s.2 7==3||pk b s.2 7==4)then(bif s.1.on then(shR s.1 (pk b (s.2+1) 8),s.2+2)else(s.1,s.2+1))else
 bif pk b s.2 7==5 then(loseK s.1 (pk b (s.2+1) 8),s.2+2)else
 (bif pk b (s.2+1) 3==0 then redoK s.1 else s.1,s.2+2)
theorem d4_els (b:List Int) (p:Int):elsOk (d4L b p) 4=true:=by
 have h1:=pk_bet b p (x:=31) (by omega)
 have h2:=pk_bet b (p+1) (x:=4) (by omega)
 have h3:=pk_bet b (p+2) (x:=31) (by omega)
 have h4:=pk_bet b (p+3) (x:=27) (by omega)
 unfold d4L elsOk allFok
 simp only[List.all_cons,List.all_nil,fok_iff.2 (show 0≤pk b p 31∧pk b p 31≤30 by omega),fok_iff.2 (show 0≤pk b (p+1) 4∧pk b (p+1) 4≤30 by omega),fok_iff.2 (show 0≤pk b (p+2) 31∧pk b (p+2) 31≤30 by omega),fok_iff.2 (show 0≤pk b (p+3) 27∧pk b (p+3) 27≤30 by omega)]
 rfl
theorem kpS_inv (b:List Int) {i:Nat} {s:PK×Int} (h:s.1.ok=true∧0≤s.2):(kpS b i s).1.ok=true∧s.2≤(kpS b i s).2∧(kpS b i s).2≤s.2+6:=by
 obtain⟨h1,h2⟩:=h
 have h8:=pk_bet b (s.2+1) (x:=8) (by omega)
 have hb8:bet (pk b (s.2+1) 8) 0 7=true:=bet_iff.2 (by omega)
 unfold kpS
 cases c1:pk b s.2 7==0||pk b s.2 7==1 with
 |true=>
  rw[cond_true]
  refine⟨?_,by dsimp only;omega,by dsimp only;omega⟩
  cases c2:begB s.1 (1+pk b (s.2+1) 2) (d4L b (s.2+2))with
  |true=>exact ok_beg c2
  |false=>exact h1
 |false=>
  rw[cond_false]
  cases c3:pk b s.2 7==2||(pk b s.2 7==3||pk b s.2 7==4)with
  |true=>
   rw[cond_true]
   cases ho:s.1.on with
   |true=>exact⟨ok_shR h1 ho hb8,by rw[cond_true];dsimp only;omega,by rw[cond_true];dsimp only;omega⟩
   |false=>exact⟨h1,by rw[cond_false];dsimp only;omega,by rw[cond_false];dsimp only;omega⟩
  |false=>
   rw[cond_false]
   cases c4:pk b s.2 7==5 with
   |true=>exact⟨ok_lose h1 hb8,by rw[cond_true];dsimp only;omega,by rw[cond_true];dsimp only;omega⟩
   |false=>
    rw[cond_false]
    refine⟨?_,by dsimp only;omega,by dsimp only;omega⟩
    cases c5:pk b (s.2+1) 3==0 with
    |true=>exact ok_redo h1
    |false=>exact h1
theorem q2 (p:Int):p+2+4=p+6:=by omega
theorem l46 (b:List Int) (n:Nat) (p:Int) (x:PK) (N:Nat) (o1:n=b.length) (o2:byteB b=true) (o3:0≤p) (o4:p≤800000) (hN:N≤100) (hx:x.ok=true):
  Good Tryz.prog 1 (.block 0 (.loop (bodyAt 0 (codeOf f46)))) (I46 b n p x N) fun e t=>e=.normal∧t=X46 b n (runN (kpS b) N 0 (x,p)).2 (runN (kpS b) N 0 (x,p)).1:=by
 have key:=Good.count hT t71 hmix (m:=1) (id:=0) (body:=bodyAt 0 (codeOf f46)) N (fun i s=>s.1.ok=true∧0≤s.2∧s.2≤p+6*i) (fun i s=>I46 b n s.2 s.1 ((N:Int)-i)) (fun s=>X46 b n s.2 s.1) (kpS b) (liveH f46 0) (liveB' f46 0)
  (fun _ _=>[]) (fun _ _ _ _=>LcOk.nil) (fun i s hi h=> ?_) (fun s h=>⟨_,_,⟨_,_,r46_14 b n s.2 s.1 ((N:Int)-N),by simp,by simp⟩⟩) (x,p) ⟨hx,o3,by simp⟩
 ·have e0:(N:Int)-((0:Nat):Int)=N:=by omega
  rw[e0]at key;exact key
 ·obtain⟨h1,h2,h3⟩:=h
  obtain⟨k1,k2,k3⟩:=kpS_inv b (i:=i) (s:=s) ⟨h1,h2⟩
  refine⟨⟨k1,by omega,by omega⟩, ?_⟩
  obtain⟨x,p'⟩:=s
  dsimp only at h1 h2 h3⊢
  obtain⟨g4,ga,gb,gc⟩:=ok_dlen h1
  have w:IntKind.i64.wrap ((N:Int)-i-1)=(N:Int)-((i+1:Nat):Int):=by rw[wrap_mid (by omega) (by omega)];omega
  have hm:(N:Int)-i>0:=by omega
  have h8:=pk_bet b (p'+1) (x:=8) (by omega)
  have hb8:bet (pk b (p'+1) 8) 0 7=true:=bet_iff.2 (by omega)
  have h22:=pk_bet b (p'+1) (x:=2) (by omega)
  have h7:=pk_bet b p' (x:=7) (by omega)
  have w2:IntKind.i64.wrap (1+pk b (p'+1) 2)=1+pk b (p'+1) 2:=wrap_small (by omega) (by omega)
  unfold kpS
  dsimp only
  have hv:pk b p' 7=0∨pk b p' 7=1∨pk b p' 7=2∨pk b p' 7=3∨pk b p' 7=4∨pk b p' 7=5∨pk b p' 7=6:=by omega
  rcases hv with c0|c0|c0|c0|c0|c0|c0
  ·rw[c0]
   show∃f p,Rnd 1 _ _ _ _ (I46 b n (p'+6) (bif begB x (1+pk b (p'+1) 2) (d4L b (p'+2))then begK x (1+pk b (p'+1) 2) (d4L b (p'+2))else x) _)
   cases c2:begB x (1+pk b (p'+1) 2) (d4L b (p'+2))with
   |true=>
    have c2':begB ⟨x.k,x.a,x.b,x.c,x.on,x.kd,x.d,x.vs⟩ (1+pk b (p'+1) 2) (d4L b (p'+2))=true:=c2
    have e:=r46_1 b n p' x ((N:Int)-i)
    simp only[p2,q2,w,w2]at e
    refine⟨_,_,⟨_,_,e, ?_,by simp⟩⟩
    simp only[c0,c2',o1,o2,ga,gb,gc,bS]
    simp
    omega
   |false=>
    have c2':begB ⟨x.k,x.a,x.b,x.c,x.on,x.kd,x.d,x.vs⟩ (1+pk b (p'+1) 2) (d4L b (p'+2))=false:=c2
    have e:=r46_2 b n p' x ((N:Int)-i)
    simp only[p2,q2,w,w2]at e
    refine⟨_,_,⟨_,_,e, ?_,by simp⟩⟩
    simp only[c0,c2',o1,o2,ga,gb,gc,bS]
    simp
    omega
  ·rw[c0]
   show∃f p,Rnd 1 _ _ _ _ (I46 b n (p'+6) (bif begB x (1+pk b (p'+1) 2) (d4L b (p'+2))then begK x (1+pk b (p'+1) 2) (d4L b (p'+2))else x) _)
   cases c2:begB x (1+pk b (p'+1) 2) (d4L b (p'+2))with
   |true=>
    have c2':begB ⟨x.k,x.a,x.b,x.c,x.on,x.kd,x.d,x.vs⟩ (1+pk b (p'+1) 2) (d4L b (p'+2))=true:=c2
    have e:=r46_3 b n p' x ((N:Int)-i)
    simp only[p2,q2,w,w2]at e
    refine⟨_,_,⟨_,_,e, ?_,by simp⟩⟩
    simp only[c0,c2',o1,o2,ga,gb,gc,bS]
    simp
    omega
   |false=>
    have c2':begB ⟨x.k,x.a,x.b,x.c,x.on,x.kd,x.d,x.vs⟩ (1+pk b (p'+1) 2) (d4L b (p'+2))=false:=c2
    have e:=r46_4 b n p' x ((N:Int)-i)
    simp only[p2,q2,w,w2]at e
    refine⟨_,_,⟨_,_,e, ?_,by simp⟩⟩
    simp only[c0,c2',o1,o2,ga,gb,gc,bS]
    simp
    omega
  ·rw[c0]
   show∃f p,Rnd 1 _ _ _ _ (I46 b n (bif x.on then(shR x (pk b (p'+1) 8),p'+2)else(x,p'+1)).2 (bif x.on then(shR x (pk b (p'+1) 8),p'+2)else(x,p'+1)).1 _)
   cases ho:x.on with
   |true=>
    have K:=x.onK h1 ho
    have e:=r46_5 b n p' x ((N:Int)-i)
    simp only[p2,q2,w,w2]at e
    refine⟨_,_,⟨_,_,e, ?_,by simp⟩⟩
    simp only[c0,ho,K.hkd,K.hd,hb8,o1,o2,ga,gb,gc,bS]
    simp
    omega
   |false=>
    have e:=r46_6 b n p' x ((N:Int)-i)
    simp only[p2,q2,w,w2]at e
    refine⟨_,_,⟨_,_,e, ?_,by simp⟩⟩
    simp only[c0,ho,o1,o2,ga,gb,gc,bS]
    simp
    omega
  ·rw[c0]
   show∃f p,Rnd 1 _ _ _ _ (I46 b n (bif x.on then(shR x (pk b (p'+1) 8),p'+2)else(x,p'+1)).2 (bif x.on then(shR x (pk b (p'+1) 8),p'+2)else(x,p'+1)).1 _)
   cases ho:x.on with
   |true=>
    have K:=x.onK h1 ho
    have e:=r46_7 b n p' x ((N:Int)-i)
    simp only[p2,q2,w,w2]at e
    refine⟨_,_,⟨_,_,e, ?_,by simp⟩⟩
    simp only[c0,ho,K.hkd,K.hd,hb8,o1,o2,ga,gb,gc,bS]
    simp
    omega
   |false=>
    have e:=r46_8 b n p' x ((N:Int)-i)
    simp only[p2,q2,w,w2]at e
    refine⟨_,_,⟨_,_,e, ?_,by simp⟩⟩
    simp only[c0,ho,o1,o2,ga,gb,gc,bS]
    simp
    omega
  ·rw[c0]
   show∃f p,Rnd 1 _ _ _ _ (I46 b n (bif x.on then(shR x (pk b (p'+1) 8),p'+2)else(x,p'+1)).2 (bif x.on then(shR x (pk b (p'+1) 8),p'+2)else(x,p'+1)).1 _)
   cases ho:x.on with
   |true=>
    have K:=x.onK h1 ho
    have e:=r46_9 b n p' x ((N:Int)-i)
    simp only[p2,q2,w,w2]at e
    refine⟨_,_,⟨_,_,e, ?_,by simp⟩⟩
    simp only[c0,ho,K.hkd,K.hd,hb8,o1,o2,ga,gb,gc,bS]
    simp
    omega
   |false=>
    have e:=r46_10 b n p' x ((N:Int)-i)
    simp only[p2,q2,w,w2]at e
    refine⟨_,_,⟨_,_,e, ?_,by simp⟩⟩
    simp only[c0,ho,o1,o2,ga,gb,gc,bS]
    simp
    omega
  ·rw[c0]
   show∃f p,Rnd 1 _ _ _ _ (I46 b n (p'+2) (loseK x (pk b (p'+1) 8)) _)
   have e:=r46_11 b n p' x ((N:Int)-i)
   simp only[p2,q2,w,w2]at e
   refine⟨_,_,⟨_,_,e, ?_,by simp⟩⟩
   simp only[c0,o1,o2,ga,gb,gc,bS]
   simp
   omega
  ·rw[c0]
   show∃f p,Rnd 1 _ _ _ _ (I46 b n (p'+2) (bif pk b (p'+1) 3==0 then redoK x else x) _)
   cases c5:pk b (p'+1) 3==0 with
   |true=>
    have e:=r46_12 b n p' x ((N:Int)-i)
    simp only[p2,q2,w,w2]at e
    refine⟨_,_,⟨_,_,e, ?_,by simp⟩⟩
    simp only[c0,c5,o1,o2,ga,gb,gc,bS]
    simp
    omega
   |false=>
    have e:=r46_13 b n p' x ((N:Int)-i)
    simp only[p2,q2,w,w2]at e
    refine⟨_,_,⟨_,_,e, ?_,by simp⟩⟩
    simp only[c0,c5,o1,o2,ga,gb,gc,bS]
    simp
    omega
theorem x46_1 (b:List Int) (n:Nat) (p q:Int) (x y:PK) (m:Int):evalF tt (ctOf T71) ([(0,⟨liveH f46 0,I46 b n (p+1+4+1) (snK (IntKind.i64.wrap (1+pk b p 2)) (d4L b (p+1)) 1) (pk b (p+1+4) 14),.normal,X46 b n q y⟩)]) 100 f46 [.c (.ptr 0 0 0 0)] [.live (.cells [.view none (.ints .u8 b) n 1 none,.int .i64 p])] [(0,true)]=
  some ⟨.agg [.int .i64 y.1,.sl 1 0 y.2.length 1 none,.sl 2 0 y.3.length 1 none,.sl 3 0 y.4.length 1 none,.bool y.5,.int .i64 y.6,.sl 4 0 y.7.length 1 none,.int .i64 y.8],[.live (.cells [.view none (.ints .u8 b) n 1 none,.int .i64 (nmV b (q+1+1)).snd]),.live (.ints .i64 (y.2.set (pk b (q+1) 8).toNat (nmV b (q+1+1)).fst)),.live (.ints .i64 y.3),.live (.bools y.4),.live (.ints .i64 y.7)],(decide (n=b.length)&&(byteB b&&(decide (0≤p)&&(decide (p≤1000000)&&(decide (n=b.length)&&(byteB b&&(decide (0≤p+1)&&(decide (p+1≤900000)&&(decide (n=b.length)&&(byteB b&&(decide (0≤p+1+4)&&(decide (p+1+4≤1000000)&&(decide (n=b.length)&&(byteB b&&(decide (0≤q)&&(decide (q≤1000000)&&((pk b q 30==0)&&(decide (n=b.length)&&(byteB b&&(decide (0≤q+1)&&(decide (q+1≤1000000)&&(decide (n=b.length)&&(byteB b&&(decide (0≤q+1+1)&&(decide (q+1+1≤900000)&&(decide (0≤pk b (q+1) 8)&&(decide (pk b (q+1) 8<(↑y.2.length:Int))&&((decide ((pk b (q+1) 8).toNat<y.2.length))&&true)))))))))))))))))))))))))))),[I46 b n (p+1+4+1) (snK (IntKind.i64.wrap (1+pk b p 2)) (d4L b (p+1)) 1) (pk b (p+1+4) 14)=I46 b n (p+1+4+1) (snK (IntKind.i64.wrap (1+pk b p 2)) (d4L b (p+1)) 1) (pk b (p+1+4) 14)]⟩:=by kernel_rfl
theorem x46_2 (b:List Int) (n:Nat) (p q:Int) (x y:PK) (m:Int):evalF tt (ctOf T71) ([(0,⟨liveH f46 0,I46 b n (p+1+4+1) (snK (IntKind.i64.wrap (1+pk b p 2)) (d4L b (p+1)) 1) (pk b (p+1+4) 14),.normal,X46 b n q y⟩)]) 100 f46 [.c (.ptr 0 0 0 0)] [.live (.cells [.view none (.ints .u8 b) n 1 none,.int .i64 p])] [(0,false),(0,true)]=
  some ⟨.agg [.int .i64 y.1,.sl 1 0 y.2.length 1 none,.sl 2 0 y.3.length 1 none,.sl 3 0 y.4.length 1 none,.bool y.5,.int .i64 y.6,.sl 4 0 y.7.length 1 none,.int .i64 (pk b (q+1) 5)],[.live (.cells [.view none (.ints .u8 b) n 1 none,.int .i64 (q+1+1)]),.live (.ints .i64 y.2),.live (.ints .i64 y.3),.live (.bools y.4),.live (.ints .i64 y.7)],(decide (n=b.length)&&(byteB b&&(decide (0≤p)&&(decide (p≤1000000)&&(decide (n=b.length)&&(byteB b&&(decide (0≤p+1)&&(decide (p+1≤900000)&&(decide (n=b.length)&&(byteB b&&(decide (0≤p+1+4)&&(decide (p+1+4≤1000000)&&(decide (n=b.length)&&(byteB b&&(decide (0≤q)&&(decide (q≤1000000)&&((!pk b q 30==0)&&((pk b q 30==1)&&(decide (n=b.length)&&(byteB b&&(decide (0≤q+1)&&((decide (q+1≤1000000))&&true)))))))))))))))))))))),[I46 b n (p+1+4+1) (snK (IntKind.i64.wrap (1+pk b p 2)) (d4L b (p+1)) 1) (pk b (p+1+4) 14)=I46 b n (p+1+4+1) (snK (IntKind.i64.wrap (1+pk b p 2)) (d4L b (p+1)) 1) (pk b (p+1+4) 14)]⟩:=by kernel_rfl
theorem x46_3 (b:List Int) (n:Nat) (p q:Int) (x y:PK) (m:Int):evalF tt (ctOf T71) ([(0,⟨liveH f46 0,I46 b n (p+1+4+1) (snK (IntKind.i64.wrap (1+pk b p 2)) (d4L b (p+1)) 1) (pk b (p+1+4) 14),.normal,X46 b n q y⟩)]) 100 f46 [.c (.ptr 0 0 0 0)] [.live (.cells [.view none (.ints .u8 b) n 1 none,.int .i64 p])] [(0,false),(0,false),(0,true)]=
  some ⟨.agg [.int .i64 y.1,.sl 1 0 y.2.length 1 none,.sl 2 0 y.3.length 1 none,.sl 3 0 y.4.length 1 none,.bool !y.5,.int .i64 y.6,.sl 4 0 y.7.length 1 none,.int .i64 y.8],[.live (.cells [.view none (.ints .u8 b) n 1 none,.int .i64 (q+1)]),.live (.ints .i64 y.2),.live (.ints .i64 y.3),.live (.bools y.4),.live (.ints .i64 y.7)],(decide (n=b.length)&&(byteB b&&(decide (0≤p)&&(decide (p≤1000000)&&(decide (n=b.length)&&(byteB b&&(decide (0≤p+1)&&(decide (p+1≤900000)&&(decide (n=b.length)&&(byteB b&&(decide (0≤p+1+4)&&(decide (p+1+4≤1000000)&&(decide (n=b.length)&&(byteB b&&(decide (0≤q)&&(decide (q≤1000000)&&((!pk b q 30==0)&&((!pk b q 30==1)&&((pk b q 30==2)&&true))))))))))))))))))),[I46 b n (p+1+4+1) (snK (IntKind.i64.wrap (1+pk b p 2)) (d4L b (p+1)) 1) (pk b (p+1+4) 14)=I46 b n (p+1+4+1) (snK (IntKind.i64.wrap (1+pk b p 2)) (d4L b (p+1)) 1) (pk b (p+1+4) 14)]⟩:=by kernel_rfl
theorem x46_4 (b:List Int) (n:Nat) (p q:Int) (x y:PK) (m:Int):evalF tt (ctOf T71) ([(0,⟨liveH f46 0,I46 b n (p+1+4+1) (snK (IntKind.i64.wrap (1+pk b p 2)) (d4L b (p+1)) 1) (pk b (p+1+4) 14),.normal,X46 b n q y⟩)]) 100 f46 [.c (.ptr 0 0 0 0)] [.live (.cells [.view none (.ints .u8 b) n 1 none,.int .i64 p])] [(0,false),(0,false),(0,false),(0,true)]=
  some ⟨.agg [.int .i64 y.1,.sl 1 0 y.2.length 1 none,.sl 2 0 y.3.length 1 none,.sl 3 0 y.4.length 1 none,.bool y.5,.int .i64 y.6,.view none (.ints .i64 (vcL b (q+1)).fst) (vcL b (q+1)).fst.length 1 none,.int .i64 y.8],[.live (.cells [.view none (.ints .u8 b) n 1 none,.int .i64 (vcL b (q+1)).snd]),.live (.ints .i64 y.2),.live (.ints .i64 y.3),.live (.bools y.4)],(decide (n=b.length)&&(byteB b&&(decide (0≤p)&&(decide (p≤1000000)&&(decide (n=b.length)&&(byteB b&&(decide (0≤p+1)&&(decide (p+1≤900000)&&(decide (n=b.length)&&(byteB b&&(decide (0≤p+1+4)&&(decide (p+1+4≤1000000)&&(decide (n=b.length)&&(byteB b&&(decide (0≤q)&&(decide (q≤1000000)&&((!pk b q 30==0)&&((!pk b q 30==1)&&((!pk b q 30==2)&&((pk b q 30==3)&&(decide (n=b.length)&&(byteB b&&(decide (0≤q+1)&&((decide (q+1≤900000))&&true)))))))))))))))))))))))),[I46 b n (p+1+4+1) (snK (IntKind.i64.wrap (1+pk b p 2)) (d4L b (p+1)) 1) (pk b (p+1+4) 14)=I46 b n (p+1+4+1) (snK (IntKind.i64.wrap (1+pk b p 2)) (d4L b (p+1)) 1) (pk b (p+1+4) 14)]⟩:=by kernel_rfl
theorem x46_5 (b:List Int) (n:Nat) (p q:Int) (x y:PK) (m:Int):evalF tt (ctOf T71) ([(0,⟨liveH f46 0,I46 b n (p+1+4+1) (snK (IntKind.i64.wrap (1+pk b p 2)) (d4L b (p+1)) 1) (pk b (p+1+4) 14),.normal,X46 b n q y⟩)]) 100 f46 [.c (.ptr 0 0 0 0)] [.live (.cells [.view none (.ints .u8 b) n 1 none,.int .i64 p])] [(0,false),(0,false),(0,false),(0,false)]=
  some ⟨.agg [.int .i64 y.1,.sl 1 0 y.2.length 1 none,.sl 2 0 y.3.length 1 none,.sl 3 0 y.4.length 1 none,.bool y.5,.int .i64 y.6,.sl 4 0 y.7.length 1 none,.int .i64 y.8],[.live (.cells [.view none (.ints .u8 b) n 1 none,.int .i64 (q+1)]),.live (.ints .i64 y.2),.live (.ints .i64 y.3),.live (.bools y.4),.live (.ints .i64 y.7)],(decide (n=b.length)&&(byteB b&&(decide (0≤p)&&(decide (p≤1000000)&&(decide (n=b.length)&&(byteB b&&(decide (0≤p+1)&&(decide (p+1≤900000)&&(decide (n=b.length)&&(byteB b&&(decide (0≤p+1+4)&&(decide (p+1+4≤1000000)&&(decide (n=b.length)&&(byteB b&&(decide (0≤q)&&(decide (q≤1000000)&&((!pk b q 30==0)&&((!pk b q 30==1)&&((!pk b q 30==2)&&((!pk b q 30==3)&&true)))))))))))))))))))),[I46 b n (p+1+4+1) (snK (IntKind.i64.wrap (1+pk b p 2)) (d4L b (p+1)) 1) (pk b (p+1+4) 14)=I46 b n (p+1+4+1) (snK (IntKind.i64.wrap (1+pk b p 2)) (d4L b (p+1)) 1) (pk b (p+1+4) 14)]⟩:=by kernel_rfl
end Go.Proofs.YthapjdpkelihiaaGreat.Am
end
section
namespace Go.Proofs.YthapjdpkelihiaaGreat.Am
def PK.vcells (x:PK):List Cell:=[.int .i64 x.k,.view none (.ints .i64 x.a) x.a.length 1 none,.view none (.ints .i64 x.b) x.b.length 1 none,.view none (.bools x.c) x.c.length 1 none,.bool x.on,.int .i64 x.kd,.view none (.ints .i64 x.d) x.d.length 1 none,.int .i64 x.vs]
theorem frozK {P:Program} {f:FuncId} {args:List AV} {h:List Slot} {s:Slot} {x:PK} (hm:Meets P f args h (.agg [.int .i64 x.k,.sl 1 0 x.a.length 1 none,.sl 2 0 x.b.length 1 none,.sl 3 0 x.c.length 1 none,.bool x.on,.int .i64 x.kd,.sl 4 0 x.d.length 1 none,.int .i64 x.vs]) [s,.live (.ints .i64 x.a),.live (.ints .i64 x.b),.live (.bools x.c),.live (.ints .i64 x.d)]):
  Meets P f args h (.agg x.vcells) [s,.dead,.dead,.dead,.dead]:=
 (((hm.froz1 (j:=1) (id:=1) (c:=.ints .i64 x.a) rfl (by show 1<8;omega) rfl rfl rfl).froz1 (j:=2) (id:=2) (c:=.ints .i64 x.b) rfl (by show 2<8;omega) rfl rfl rfl).froz1 (j:=3) (id:=3) (c:=.bools x.c) rfl (by show 3<8;omega) rfl rfl rfl).froz1 (j:=6) (id:=4) (c:=.ints .i64 x.d) rfl (by show 6<8;omega) rfl rfl rfl
theorem frozK3 {P:Program} {f:FuncId} {args:List AV} {h:List Slot} {s:Slot} {x:PK} (hm:Meets P f args h (.agg [.int .i64 x.k,.sl 1 0 x.a.length 1 none,.sl 2 0 x.b.length 1 none,.sl 3 0 x.c.length 1 none,.bool x.on,.int .i64 x.kd,.view none (.ints .i64 x.d) x.d.length 1 none,.int .i64 x.vs]) [s,.live (.ints .i64 x.a),.live (.ints .i64 x.b),.live (.bools x.c)]):
  Meets P f args h (.agg x.vcells) [s,.dead,.dead,.dead,.dead]:=
 (((hm.froz1 (j:=1) (id:=1) (c:=.ints .i64 x.a) rfl (by show 1<8;omega) rfl rfl rfl).froz1 (j:=2) (id:=2) (c:=.ints .i64 x.b) rfl (by show 2<8;omega) rfl rfl rfl).froz1 (j:=3) (id:=3) (c:=.bools x.c) rfl (by show 3<8;omega) rfl rfl rfl).addDead
def kdT (b:List Int) (y:PK) (q:Int):PK×Int:=
 bif pk b q 30==0 then(⟨y.k,y.a.set (pk b (q+1) 8).toNat (nmV b (q+2)).1,y.b,y.c,y.on,y.kd,y.d,y.vs⟩,(nmV b (q+2)).2)else
 bif pk b q 30==1 then(⟨y.k,y.a,y.b,y.c,y.on,y.kd,y.d,pk b (q+1) 5⟩,q+2)else
 bif pk b q 30==2 then(⟨y.k,y.a,y.b,y.c, !y.on,y.kd,y.d,y.vs⟩,q+1)else
 bif pk b q 30==3 then(⟨y.k,y.a,y.b,y.c,y.on,y.kd,(vcL b (q+1)).1,y.vs⟩,(vcL b (q+1)).2)else(y,q+1)
def kdS (b:List Int) (p:Int):PK×Int:=runN (kpS b) (pk b (p+5) 14).toNat 0 (snK (1+pk b p 2) (d4L b (p+1)) 1,p+6)
def kdr (b:List Int) (p:Int):PK×Int:=kdT b (kdS b p).1 (kdS b p).2
theorem kdS_inv (b:List Int) {p:Int} (h0:0≤p):(kdS b p).1.ok=true∧p≤(kdS b p).2∧(kdS b p).2≤p+100:=by
 have h2:=pk_bet b p (x:=2) (by omega)
 have h14:=pk_bet b (p+5) (x:=14) (by omega)
 have hs:snB (1+pk b p 2) (d4L b (p+1)) 1=true:=by
  unfold snB
  rw[bet_iff.2 (show 1≤1+pk b p 2∧1+pk b p 2≤2 by omega),d4_els];rfl
 have key:=runN_inv0 (step:=kpS b) (fun i s=>s.1.ok=true∧p+6≤s.2∧s.2≤p+6+6*i) (pk b (p+5) 14).toNat (snK (1+pk b p 2) (d4L b (p+1)) 1,p+6) ⟨ok_new hs,by dsimp only;omega,by dsimp only;omega⟩ fun i s _ h=>by
  obtain⟨k1,k2,k3⟩:=kpS_inv b (i:=i) (s:=s) ⟨h.1,by omega⟩
  exact⟨k1,by omega,by omega⟩
 unfold kdS
 exact⟨key.1,by omega,by omega⟩
def FFkdr:Model:=fun args h=>
 match args,h with
 |[.c (.ptr 0 0 0 0)],[.live (.cells [.view none (.ints .u8 b) n 1 none,.int .i64 p])]=>
  some (.agg (kdr b p).1.vcells,[.live (.cells [.view none (.ints .u8 b) n 1 none,.int .i64 (kdr b p).2]),.dead,.dead,.dead,.dead],[decide (n=b.length),byteB b,decide (0≤p),decide (p≤700000)])
 |_,_=>none
theorem m46:ModelOk Tryz.prog 46 FFkdr:=by
 intro args h res h' o he ho
 unfold FFkdr at he
 split at he
 case h_2=>cases he
 rename_i b n p
 simp only[Option.some.injEq,Prod.mk.injEq]at he
 obtain⟨rfl,rfl,rfl⟩:=he
 simp only[List.mem_cons,List.not_mem_nil,or_false,forall_eq_or_imp,forall_eq,decide_eq_true_eq]at ho
 obtain⟨o1,o2,o3,o4⟩:=ho
 have h2:=pk_bet b p (x:=2) (by omega)
 have h14:=pk_bet b (p+5) (x:=14) (by omega)
 obtain⟨i1,i2,i3⟩:=kdS_inv b o3
 obtain⟨g4,ga,gb,gc⟩:=ok_dlen i1
 have hs:snB (1+pk b p 2) (d4L b (p+1)) 1=true:=by
  unfold snB
  rw[bet_iff.2 (show 1≤1+pk b p 2∧1+pk b p 2≤2 by omega),d4_els];rfl
 have w2:IntKind.i64.wrap (1+pk b p 2)=1+pk b p 2:=wrap_small (by omega) (by omega)
 have e6:p+1+4+1=p+6:=by omega
 have e5:p+1+4=p+5:=by omega
 have g:=l46 b n (p+6) (snK (1+pk b p 2) (d4L b (p+1)) 1) (pk b (p+5) 14).toNat o1 o2 (by omega) (by omega) (by omega) (ok_new hs)
 rw[show(((pk b (p+5) 14).toNat:Nat):Int)=pk b (p+5) 14 from by omega]at g
 have g':Good Tryz.prog 1 (.block 0 (.loop (bodyAt 0 (codeOf f46)))) (I46 b n (p+1+4+1) (snK (IntKind.i64.wrap (1+pk b p 2)) (d4L b (p+1)) 1) (pk b (p+1+4) 14)) fun e t=>e=.normal∧t=X46 b n (kdS b p).2 (kdS b p).1:=by
  rw[w2,e5,show p+5+1=p+6 from by omega];exact g
 have lo: ∀cc,codeOf f46=cc→LcOk Tryz.prog 1 [(0,⟨liveH f46 0,I46 b n (p+1+4+1) (snK (IntKind.i64.wrap (1+pk b p 2)) (d4L b (p+1)) 1) (pk b (p+1+4) 14),.normal,X46 b n (kdS b p).2 (kdS b p).1⟩)] cc:=fun cc h=>by
  subst h;exact LcOk.cons (by kernel_rfl) g' LcOk.nil
 unfold kdr
 revert i1 i2 i3 ga gb gc g4 lo
 clear g g'
 generalize (kdS b p).1=y
 generalize (kdS b p).2=q
 intro i1 i2 i3 g4 ga gb gc lo
 have h8:=pk_bet b (q+1) (x:=8) (by omega)
 unfold kdT
 cases c1:pk b q 30==0 with
 |true=>
  have e:=x46_1 b n p q (snK (1+pk b p 2) (d4L b (p+1)) 1) y 0
  have el:y.a.length=(y.a.set (pk b (q+1) 8).toNat (nmV b (q+2)).1).length:=List.length_set.symm
  have mm:=meets_of (f:=46) t71 (fn:=f46) (by kernel_rfl) (by kernel_rfl) e (by simp only[c1,o1,o2,ga,bS];omega) (by simp) (fun cc hcc=>lo cc (by cases hcc;rfl))
  rw[show q+1+1=q+2 from by omega,el]at mm
  exact frozK (x:=⟨y.k,y.a.set (pk b (q+1) 8).toNat (nmV b (q+2)).1,y.b,y.c,y.on,y.kd,y.d,y.vs⟩) mm
 |false=>
  cases c2:pk b q 30==1 with
  |true=>
   have e:=x46_2 b n p q (snK (1+pk b p 2) (d4L b (p+1)) 1) y 0
   have mm:=meets_of (f:=46) t71 (fn:=f46) (by kernel_rfl) (by kernel_rfl) e (by simp only[c1,c2,o1,o2,ga,bS];omega) (by simp) (fun cc hcc=>lo cc (by cases hcc;rfl))
   rw[show q+1+1=q+2 from by omega]at mm
   exact frozK (x:=⟨y.k,y.a,y.b,y.c,y.on,y.kd,y.d,pk b (q+1) 5⟩) mm
  |false=>
   cases c3:pk b q 30==2 with
   |true=>
    have e:=x46_3 b n p q (snK (1+pk b p 2) (d4L b (p+1)) 1) y 0
    have mm:=meets_of (f:=46) t71 (fn:=f46) (by kernel_rfl) (by kernel_rfl) e (by simp only[c1,c2,c3,o1,o2,ga,bS];omega) (by simp) (fun cc hcc=>lo cc (by cases hcc;rfl))
    exact frozK (x:=⟨y.k,y.a,y.b,y.c, !y.on,y.kd,y.d,y.vs⟩) mm
   |false=>
    cases c4:pk b q 30==3 with
    |true=>
     have e:=x46_4 b n p q (snK (1+pk b p 2) (d4L b (p+1)) 1) y 0
     have mm:=meets_of (f:=46) t71 (fn:=f46) (by kernel_rfl) (by kernel_rfl) e (by simp only[c1,c2,c3,c4,o1,o2,ga,bS];omega) (by simp) (fun cc hcc=>lo cc (by cases hcc;rfl))
     exact frozK3 (x:=⟨y.k,y.a,y.b,y.c,y.on,y.kd,(vcL b (q+1)).1,y.vs⟩) mm
    |false=>
     have e:=x46_5 b n p q (snK (1+pk b p 2) (d4L b (p+1)) 1) y 0
     have mm:=meets_of (f:=46) t71 (fn:=f46) (by kernel_rfl) (by kernel_rfl) e (by simp only[c1,c2,c3,c4,o1,o2,ga,bS];omega) (by simp) (fun cc hcc=>lo cc (by cases hcc;rfl))
     exact frozK (x:=y) mm
noncomputable def T72:List Entry:=[⟨46,[0],FFkdr⟩]++T71
theorem e72:EntriesOk Tryz.prog T72:=by
 refine EntriesOk.append ?_ e71
 intro e he
 simp only[List.mem_cons,List.not_mem_nil,or_false]at he
 subst he;exact m46
theorem t72:CtOk Tryz.prog (ctOf T72):=ctOf_ok e72
end Go.Proofs.YthapjdpkelihiaaGreat.Am
end
section
namespace Go.Proofs.YthapjdpkelihiaaGreat.Am
theorem byteB_take {b:List Int} (h:byteB b=true) (n:Nat):byteB (b.take n)=true:=by
 unfold byteB at h⊢
 rw[List.all_eq_true]at h⊢
 exact fun x hx=>h x (List.mem_of_mem_take hx)
theorem vcL_ok (b:List Int) {p:Int}:(vcL b p).1.length≤4∧p≤(vcL b p).2∧(vcL b p).2≤p+19:=by
 unfold vcL
 cases pk b (p+16) 40==0 with
 |true=>rw[cond_true];exact⟨by show 3≤4;omega,by dsimp only;omega,by dsimp only;omega⟩
 |false=>
  rw[cond_false]
  cases pk b (p+16) 40==1 with
  |true=>rw[cond_true];exact⟨by dsimp only;rw[List.length_set];exact Nat.le_refl 4,by dsimp only;omega,by dsimp only;omega⟩
  |false=>rw[cond_false];exact⟨Nat.le_refl 4,by dsimp only;omega,by dsimp only;omega⟩
theorem nmV_ok (b:List Int) (p:Int):p≤(nmV b p).2∧(nmV b p).2≤p+3:=by
 unfold nmV
 cases pk b p 10==0 with
 |true=>rw[cond_true];dsimp only;omega
 |false=>
  rw[cond_false]
  cases pk b p 10==1 with
  |true=>rw[cond_true];dsimp only;omega
  |false=>
   rw[cond_false]
   cases pk b p 10==2 with
   |false=>rw[cond_false];dsimp only;omega
   |true=>
    rw[cond_true]
    cases pk b (p+1) 5==0
    ·rw[cond_false];dsimp only;omega
    ·rw[cond_true];dsimp only;omega
def PK.sz (x:PK):Prop:=x.a.length=8∧x.b.length=8∧x.c.length=8∧x.d.length≤4
theorem kdr_sz (b:List Int) {p:Int} (h0:0≤p):(kdr b p).1.sz∧p≤(kdr b p).2∧(kdr b p).2≤p+130:=by
 obtain⟨i1,i2,i3⟩:=kdS_inv b h0
 obtain⟨g4,ga,gb,gc⟩:=ok_dlen i1
 unfold kdr kdT
 generalize (kdS b p).1=y at*
 generalize (kdS b p).2=q at*
 cases pk b q 30==0 with
 |true=>
  have:=nmV_ok b (q+2)
  rw[cond_true]
  exact⟨⟨by dsimp only;rw[List.length_set];exact ga,gb,gc,g4⟩,by dsimp only;omega,by dsimp only;omega⟩
 |false=>
  rw[cond_false]
  cases pk b q 30==1 with
  |true=>rw[cond_true];exact⟨⟨ga,gb,gc,g4⟩,by dsimp only;omega,by dsimp only;omega⟩
  |false=>
   rw[cond_false]
   cases pk b q 30==2 with
   |true=>rw[cond_true];exact⟨⟨ga,gb,gc,g4⟩,by dsimp only;omega,by dsimp only;omega⟩
   |false=>
    rw[cond_false]
    cases pk b q 30==3 with
    |true=>
     have:=vcL_ok b (p:=q+1)
     rw[cond_true];exact⟨⟨ga,gb,gc,this.1⟩,by dsimp only;omega,by dsimp only;omega⟩
    |false=>rw[cond_false];exact⟨⟨ga,gb,gc,g4⟩,by dsimp only;omega,by dsimp only;omega⟩
theorem redo_sz {x:PK}:(redoK x).a.length≤8∧(redoK x).d.length≤4:=by
 unfold redoK
 cases h:x.ok with
 |false=>rw[cond_false];exact⟨by show 0≤8;omega,by show 0≤4;omega⟩
 |true=>
  obtain⟨g4,ga,gb,gc⟩:=ok_dlen h
  rw[cond_true]
  cases x.on with
  |true=>rw[cond_true];exact⟨by show 8≤8;omega,by show 0≤4;omega⟩
  |false=>rw[cond_false];exact⟨by omega,g4⟩
def dkR (b:List Int):PK:=(kdr (b.take 2000) 0).1
def dkSh (b:List Int):Int:=pk (b.take 2000) (kdr (b.take 2000) 0).2 8+pk (b.take 2000) ((kdr (b.take 2000) 0).2+1) 24/23*8
def FFdkS:Model:=fun args h=>
 match args,h with
 |[.c (.view _ (.ints .u8 b) n 1 _)],[]=>
  some (.tup [.agg (dkR b).vcells,.c (.int .i64 (dkSh b))],[],[byteB b])
 |_,_=>none
end Go.Proofs.YthapjdpkelihiaaGreat.Am
end
section
namespace Go.Proofs.YthapjdpkelihiaaGreat.Am
theorem viewK {P:Program} {f:FuncId} {args:List AV} {x:PK} (hm:Meets P f args [] (.agg x.cells) [.live (.ints .i64 x.a),.live (.ints .i64 x.b),.live (.bools x.c),.live (.ints .i64 x.d)]):Meets P f args [] (.agg x.vcells) []:=
 hm.views (o:=[decide (x.a.length=x.a.length),decide (x.b.length=x.b.length),decide (x.c.length=x.c.length),decide (x.d.length=x.d.length)]) rfl (by simp)
def FFshRv:Model:=fun args h=>
 match args,h with
 |[.agg [.int .i64 k,.view _ (.ints .i64 a) n1 1 _,.view _ (.ints .i64 b) n2 1 _,.view _ (.bools c) n3 1 _,.bool on,.int .i64 kd,.view _ (.ints .i64 d) n4 1 _,.int .i64 vs],.c (.int .i64 x)],[]=>
  some (.agg (shR ⟨k,a,b,c,on,kd,d,vs⟩ x).vcells,[],[decide (a.length=8),decide (b.length=8),decide (c.length=8),bet kd 1 2,elsOk d 4,bet x 0 7])
 |_,_=>none
theorem m52v:ModelN Tryz.prog 105 FFshRv:=by
 intro args h res h' o hnorm he ho
 unfold FFshRv at he
 split at he
 case h_2=>cases he
 rename_i k nl1 a n1 cap1 nl2 b n2 cap2 nl3 c n3 cap3 on kd nl4 d n4 cap4 vs x
 simp only[Option.some.injEq,Prod.mk.injEq]at he
 obtain⟨rfl,rfl,rfl⟩:=he
 simp only[List.mem_cons,List.not_mem_nil,or_false,forall_eq_or_imp,forall_eq,decide_eq_true_eq]at ho
 obtain⟨o1,o2,o3,o4,o5,o6⟩:=ho
 exact viewK (m52 _ _ _ _ _ hnorm rfl (by simp[o1,o2,o3,o4,o5,o6]))
def FFredoSv:Model:=fun args h=>
 match args,h with
 |[.agg [.int .i64 k,.view _ (.ints .i64 a) n1 1 _,.view _ (.ints .i64 b) n2 1 _,.view _ (.bools c) n3 1 _,.bool on,.int .i64 kd,.view _ (.ints .i64 d) n4 1 _,.int .i64 vs]],[]=>
  some (.agg (redoK ⟨k,a,b,c,on,kd,d,vs⟩).vcells,[],[decide (a.length≤274877906944),decide (d.length≤274877906944)])
 |_,_=>none
theorem m18v:ModelN Tryz.prog 64 FFredoSv:=by
 intro args h res h' o hnorm he ho
 unfold FFredoSv at he
 split at he
 case h_2=>cases he
 rename_i k nl1 a n1 cap1 nl2 b n2 cap2 nl3 c n3 cap3 on kd nl4 d n4 cap4 vs
 simp only[Option.some.injEq,Prod.mk.injEq]at he
 obtain⟨rfl,rfl,rfl⟩:=he
 simp only[List.mem_cons,List.not_mem_nil,or_false,forall_eq_or_imp,forall_eq,decide_eq_true_eq]at ho
 obtain⟨o1,o2⟩:=ho
 exact viewK (m18 _ _ _ _ _ hnorm rfl (by simp[o1,o2]))
noncomputable def T73:List Entry:=[⟨105,[],nm FFshRv⟩,⟨64,[],nm FFredoSv⟩]++T72
theorem e73:EntriesOk Tryz.prog T73:=by
 refine EntriesOk.append ?_ e72
 intro e he
 simp only[List.mem_cons,List.not_mem_nil,or_false]at he
 rcases he with rfl|rfl
 ·exact m52v.ok
 ·exact m18v.ok
theorem t73:CtOk Tryz.prog (ctOf T73):=ctOf_ok e73
theorem x34v_1 (b:List Int):evalF tt (ctOf T73) ([]) 100 Tryz.f16 [.c (.view none (.ints .u8 b) b.length 1 none)] [] [(0,true),(0,true),(0,true)]=
  some ⟨.tup [.agg [.int .i64 (kdr (List.take 2000 b) ((kdr (List.take 2000 b) 0).snd+1)).1.1,.view none (.ints .i64 (kdr (List.take 2000 b) ((kdr (List.take 2000 b) 0).snd+1)).1.2) (kdr (List.take 2000 b) ((kdr (List.take 2000 b) 0).snd+1)).1.2.length 1 none,.view none (.ints .i64 (kdr (List.take 2000 b) ((kdr (List.take 2000 b) 0).snd+1)).1.3) (kdr (List.take 2000 b) ((kdr (List.take 2000 b) 0).snd+1)).1.3.length 1 none,.view none (.bools (kdr (List.take 2000 b) ((kdr (List.take 2000 b) 0).snd+1)).1.4) (kdr (List.take 2000 b) ((kdr (List.take 2000 b) 0).snd+1)).1.4.length 1 none,.bool (kdr (List.take 2000 b) ((kdr (List.take 2000 b) 0).snd+1)).1.5,.int .i64 (kdr (List.take 2000 b) ((kdr (List.take 2000 b) 0).snd+1)).1.6,.view none (.ints .i64 (kdr (List.take 2000 b) ((kdr (List.take 2000 b) 0).snd+1)).1.7) (kdr (List.take 2000 b) ((kdr (List.take 2000 b) 0).snd+1)).1.7.length 1 none,.int .i64 (kdr (List.take 2000 b) ((kdr (List.take 2000 b) 0).snd+1)).1.8],.c (.int .i64 (kdV (List.take 2000 b) (kdr (List.take 2000 b) ((kdr (List.take 2000 b) 0).snd+1)).snd)),.c (.view none (.ints .i64 (vcL (List.take 2000 b) ((kdr (List.take 2000 b) ((kdr (List.take 2000 b) 0).snd+1)).snd+2)).fst) (vcL (List.take 2000 b) ((kdr (List.take 2000 b) ((kdr (List.take 2000 b) 0).snd+1)).snd+2)).fst.length 1 none)],[],(decide ((List.take 2000 b).length=(List.take 2000 b).length)&&(byteB (List.take 2000 b)&&(((kdr (List.take 2000 b) 0).1.5)&&(((kdr (List.take 2000 b) 0).1.5)&&(decide ((List.take 2000 b).length=(List.take 2000 b).length)&&(byteB (List.take 2000 b)&&(decide (0≤(kdr (List.take 2000 b) 0).snd)&&(decide ((kdr (List.take 2000 b) 0).snd≤1000000)&&(((kdr (List.take 2000 b) 0).1.5)&&((bif (kdr (List.take 2000 b) 0).1.5 then decide (pk (List.take 2000 b) (kdr (List.take 2000 b) 0).snd 3>0)else false)&&(decide ((kdr (List.take 2000 b) 0).1.2.length≤274877906944)&&(decide ((kdr (List.take 2000 b) 0).1.7.length≤274877906944)&&(((↑(redoK {k:=(kdr (List.take 2000 b) 0).1.1,a:=(kdr (List.take 2000 b) 0).1.2,b:=(kdr (List.take 2000 b) 0).1.3,c:=(kdr (List.take 2000 b) 0).1.4,on:=(kdr (List.take 2000 b) 0).1.5,kd:=(kdr (List.take 2000 b) 0).1.6,d:=(kdr (List.take 2000 b) 0).1.7,vs:=(kdr (List.take 2000 b) 0).1.8}).b.length:Int)==0)&&(decide ((List.take 2000 b).length=(List.take 2000 b).length)&&(byteB (List.take 2000 b)&&(decide (0≤(kdr (List.take 2000 b) 0).snd+1)&&(decide ((kdr (List.take 2000 b) 0).snd+1≤700000)&&(decide ((List.take 2000 b).length=(List.take 2000 b).length)&&(byteB (List.take 2000 b)&&(decide (0≤(kdr (List.take 2000 b) ((kdr (List.take 2000 b) 0).snd+1)).snd)&&(decide ((kdr (List.take 2000 b) ((kdr (List.take 2000 b) 0).snd+1)).snd≤900000)&&(decide ((List.take 2000 b).length=(List.take 2000 b).length)&&(byteB (List.take 2000 b)&&(decide (0≤(kdr (List.take 2000 b) ((kdr (List.take 2000 b) 0).snd+1)).snd+2)&&((decide ((kdr (List.take 2000 b) ((kdr (List.take 2000 b) 0).snd+1)).snd+2≤900000))&&true))))))))))))))))))))))))),[]⟩:=by kernel_rfl
theorem x34v_2 (b:List Int):evalF tt (ctOf T73) ([]) 100 Tryz.f16 [.c (.view none (.ints .u8 b) b.length 1 none)] [] [(0,true),(0,true),(0,false)]=
  some ⟨.tup [.agg [.int .i64 (redoK {k:=(kdr (List.take 2000 b) 0).1.1,a:=(kdr (List.take 2000 b) 0).1.2,b:=(kdr (List.take 2000 b) 0).1.3,c:=(kdr (List.take 2000 b) 0).1.4,on:=(kdr (List.take 2000 b) 0).1.5,kd:=(kdr (List.take 2000 b) 0).1.6,d:=(kdr (List.take 2000 b) 0).1.7,vs:=(kdr (List.take 2000 b) 0).1.8}).k,.view none (.ints .i64 (redoK {k:=(kdr (List.take 2000 b) 0).1.1,a:=(kdr (List.take 2000 b) 0).1.2,b:=(kdr (List.take 2000 b) 0).1.3,c:=(kdr (List.take 2000 b) 0).1.4,on:=(kdr (List.take 2000 b) 0).1.5,kd:=(kdr (List.take 2000 b) 0).1.6,d:=(kdr (List.take 2000 b) 0).1.7,vs:=(kdr (List.take 2000 b) 0).1.8}).a) (redoK {k:=(kdr (List.take 2000 b) 0).1.1,a:=(kdr (List.take 2000 b) 0).1.2,b:=(kdr (List.take 2000 b) 0).1.3,c:=(kdr (List.take 2000 b) 0).1.4,on:=(kdr (List.take 2000 b) 0).1.5,kd:=(kdr (List.take 2000 b) 0).1.6,d:=(kdr (List.take 2000 b) 0).1.7,vs:=(kdr (List.take 2000 b) 0).1.8}).a.length 1 none,.view none (.ints .i64 (redoK {k:=(kdr (List.take 2000 b) 0).1.1,a:=(kdr (List.take 2000 b) 0).1.2,b:=(kdr (List.take 2000 b) 0).1.3,c:=(kdr (List.take 2000 b) 0).1.4,on:=(kdr (List.take 2000 b) 0).1.5,kd:=(kdr (List.take 2000 b) 0).1.6,d:=(kdr (List.take 2000 b) 0).1.7,vs:=(kdr (List.take 2000 b) 0).1.8}).b) (redoK {k:=(kdr (List.take 2000 b) 0).1.1,a:=(kdr (List.take 2000 b) 0).1.2,b:=(kdr (List.take 2000 b) 0).1.3,c:=(kdr (List.take 2000 b) 0).1.4,on:=(kdr (List.take 2000 b) 0).1.5,kd:=(kdr (List.take 2000 b) 0).1.6,d:=(kdr (List.take 2000 b) 0).1.7,vs:=(kdr (List.take 2000 b) 0).1.8}).b.length 1 none,.view none (.bools (redoK {k:=(kdr (List.take 2000 b) 0).1.1,a:=(kdr (List.take 2000 b) 0).1.2,b:=(kdr (List.take 2000 b) 0).1.3,c:=(kdr (List.take 2000 b) 0).1.4,on:=(kdr (List.take 2000 b) 0).1.5,kd:=(kdr (List.take 2000 b) 0).1.6,d:=(kdr (List.take 2000 b) 0).1.7,vs:=(kdr (List.take 2000 b) 0).1.8}).c) (redoK {k:=(kdr (List.take 2000 b) 0).1.1,a:=(kdr (List.take 2000 b) 0).1.2,b:=(kdr (List.take 2000 b) 0).1.3,c:=(kdr (List.take 2000 b) 0).1.4,on:=(kdr (List.take 2000 b) 0).1.5,kd:=(kdr (List.take 2000 b) 0).1.6,d:=(kdr (List.take 2000 b) 0).1.7,vs:=(kdr (List.take 2000 b) 0).1.8}).c.length 1 none,.bool (redoK {k:=(kdr (List.take 2000 b) 0).1.1,a:=(kdr (List.take 2000 b) 0).1.2,b:=(kdr (List.take 2000 b) 0).1.3,c:=(kdr (List.take 2000 b) 0).1.4,on:=(kdr (List.take 2000 b) 0).1.5,kd:=(kdr (List.take 2000 b) 0).1.6,d:=(kdr (List.take 2000 b) 0).1.7,vs:=(kdr (List.take 2000 b) 0).1.8}).on,.int .i64 (redoK {k:=(kdr (List.take 2000 b) 0).1.1,a:=(kdr (List.take 2000 b) 0).1.2,b:=(kdr (List.take 2000 b) 0).1.3,c:=(kdr (List.take 2000 b) 0).1.4,on:=(kdr (List.take 2000 b) 0).1.5,kd:=(kdr (List.take 2000 b) 0).1.6,d:=(kdr (List.take 2000 b) 0).1.7,vs:=(kdr (List.take 2000 b) 0).1.8}).kd,.view none (.ints .i64 (redoK {k:=(kdr (List.take 2000 b) 0).1.1,a:=(kdr (List.take 2000 b) 0).1.2,b:=(kdr (List.take 2000 b) 0).1.3,c:=(kdr (List.take 2000 b) 0).1.4,on:=(kdr (List.take 2000 b) 0).1.5,kd:=(kdr (List.take 2000 b) 0).1.6,d:=(kdr (List.take 2000 b) 0).1.7,vs:=(kdr (List.take 2000 b) 0).1.8}).d) (redoK {k:=(kdr (List.take 2000 b) 0).1.1,a:=(kdr (List.take 2000 b) 0).1.2,b:=(kdr (List.take 2000 b) 0).1.3,c:=(kdr (List.take 2000 b) 0).1.4,on:=(kdr (List.take 2000 b) 0).1.5,kd:=(kdr (List.take 2000 b) 0).1.6,d:=(kdr (List.take 2000 b) 0).1.7,vs:=(kdr (List.take 2000 b) 0).1.8}).d.length 1 none,.int .i64 (redoK {k:=(kdr (List.take 2000 b) 0).1.1,a:=(kdr (List.take 2000 b) 0).1.2,b:=(kdr (List.take 2000 b) 0).1.3,c:=(kdr (List.take 2000 b) 0).1.4,on:=(kdr (List.take 2000 b) 0).1.5,kd:=(kdr (List.take 2000 b) 0).1.6,d:=(kdr (List.take 2000 b) 0).1.7,vs:=(kdr (List.take 2000 b) 0).1.8}).vs],.c (.int .i64 (kdV (List.take 2000 b) ((kdr (List.take 2000 b) 0).snd+1))),.c (.view none (.ints .i64 (vcL (List.take 2000 b) ((kdr (List.take 2000 b) 0).snd+1+2)).fst) (vcL (List.take 2000 b) ((kdr (List.take 2000 b) 0).snd+1+2)).fst.length 1 none)],[],(decide ((List.take 2000 b).length=(List.take 2000 b).length)&&(byteB (List.take 2000 b)&&(((kdr (List.take 2000 b) 0).1.5)&&(((kdr (List.take 2000 b) 0).1.5)&&(decide ((List.take 2000 b).length=(List.take 2000 b).length)&&(byteB (List.take 2000 b)&&(decide (0≤(kdr (List.take 2000 b) 0).snd)&&(decide ((kdr (List.take 2000 b) 0).snd≤1000000)&&(((kdr (List.take 2000 b) 0).1.5)&&((bif (kdr (List.take 2000 b) 0).1.5 then decide (pk (List.take 2000 b) (kdr (List.take 2000 b) 0).snd 3>0)else false)&&(decide ((kdr (List.take 2000 b) 0).1.2.length≤274877906944)&&(decide ((kdr (List.take 2000 b) 0).1.7.length≤274877906944)&&((!(↑(redoK {k:=(kdr (List.take 2000 b) 0).1.1,a:=(kdr (List.take 2000 b) 0).1.2,b:=(kdr (List.take 2000 b) 0).1.3,c:=(kdr (List.take 2000 b) 0).1.4,on:=(kdr (List.take 2000 b) 0).1.5,kd:=(kdr (List.take 2000 b) 0).1.6,d:=(kdr (List.take 2000 b) 0).1.7,vs:=(kdr (List.take 2000 b) 0).1.8}).b.length:Int)==0)&&(decide ((List.take 2000 b).length=(List.take 2000 b).length)&&(byteB (List.take 2000 b)&&(decide (0≤(kdr (List.take 2000 b) 0).snd+1)&&(decide ((kdr (List.take 2000 b) 0).snd+1≤900000)&&(decide ((List.take 2000 b).length=(List.take 2000 b).length)&&(byteB (List.take 2000 b)&&(decide (0≤(kdr (List.take 2000 b) 0).snd+1+2)&&((decide ((kdr (List.take 2000 b) 0).snd+1+2≤900000))&&true))))))))))))))))))))),[]⟩:=by kernel_rfl
theorem x34v_4 (b:List Int):evalF tt (ctOf T73) ([]) 100 Tryz.f16 [.c (.view none (.ints .u8 b) b.length 1 none)] [] [(0,true),(0,false),(0,false)]=
  some ⟨.tup [.agg [.int .i64 (kdr (List.take 2000 b) 0).1.1,.view none (.ints .i64 (kdr (List.take 2000 b) 0).1.2) (kdr (List.take 2000 b) 0).1.2.length 1 none,.view none (.ints .i64 (kdr (List.take 2000 b) 0).1.3) (kdr (List.take 2000 b) 0).1.3.length 1 none,.view none (.bools (kdr (List.take 2000 b) 0).1.4) (kdr (List.take 2000 b) 0).1.4.length 1 none,.bool (kdr (List.take 2000 b) 0).1.5,.int .i64 (kdr (List.take 2000 b) 0).1.6,.view none (.ints .i64 (kdr (List.take 2000 b) 0).1.7) (kdr (List.take 2000 b) 0).1.7.length 1 none,.int .i64 (kdr (List.take 2000 b) 0).1.8],.c (.int .i64 (kdV (List.take 2000 b) ((kdr (List.take 2000 b) 0).snd+1))),.c (.view none (.ints .i64 (vcL (List.take 2000 b) ((kdr (List.take 2000 b) 0).snd+1+2)).fst) (vcL (List.take 2000 b) ((kdr (List.take 2000 b) 0).snd+1+2)).fst.length 1 none)],[],(decide ((List.take 2000 b).length=(List.take 2000 b).length)&&(byteB (List.take 2000 b)&&(((kdr (List.take 2000 b) 0).1.5)&&(((kdr (List.take 2000 b) 0).1.5)&&(decide ((List.take 2000 b).length=(List.take 2000 b).length)&&(byteB (List.take 2000 b)&&(decide (0≤(kdr (List.take 2000 b) 0).snd)&&(decide ((kdr (List.take 2000 b) 0).snd≤1000000)&&(((kdr (List.take 2000 b) 0).1.5)&&((!bif (kdr (List.take 2000 b) 0).1.5 then decide (pk (List.take 2000 b) (kdr (List.take 2000 b) 0).snd 3>0)else false)&&((!(↑(kdr (List.take 2000 b) 0).1.3.length:Int)==0)&&(decide ((List.take 2000 b).length=(List.take 2000 b).length)&&(byteB (List.take 2000 b)&&(decide (0≤(kdr (List.take 2000 b) 0).snd+1)&&(decide ((kdr (List.take 2000 b) 0).snd+1≤900000)&&(decide ((List.take 2000 b).length=(List.take 2000 b).length)&&(byteB (List.take 2000 b)&&(decide (0≤(kdr (List.take 2000 b) 0).snd+1+2)&&((decide ((kdr (List.take 2000 b) 0).snd+1+2≤900000))&&true))))))))))))))))))),[]⟩:=by kernel_rfl
theorem x34v_6 (b:List Int):evalF tt (ctOf T73) ([]) 100 Tryz.f16 [.c (.view none (.ints .u8 b) b.length 1 none)] [] [(0,false),(1,false)]=
  some ⟨.tup [.agg [.int .i64 (kdr (List.take 2000 b) 0).1.1,.view none (.ints .i64 (kdr (List.take 2000 b) 0).1.2) (kdr (List.take 2000 b) 0).1.2.length 1 none,.view none (.ints .i64 (kdr (List.take 2000 b) 0).1.3) (kdr (List.take 2000 b) 0).1.3.length 1 none,.view none (.bools (kdr (List.take 2000 b) 0).1.4) (kdr (List.take 2000 b) 0).1.4.length 1 none,.bool (kdr (List.take 2000 b) 0).1.5,.int .i64 (kdr (List.take 2000 b) 0).1.6,.view none (.ints .i64 (kdr (List.take 2000 b) 0).1.7) (kdr (List.take 2000 b) 0).1.7.length 1 none,.int .i64 (kdr (List.take 2000 b) 0).1.8],.c (.int .i64 (kdV (List.take 2000 b) (kdr (List.take 2000 b) 0).snd)),.c (.view none (.ints .i64 (vcL (List.take 2000 b) ((kdr (List.take 2000 b) 0).snd+2)).fst) (vcL (List.take 2000 b) ((kdr (List.take 2000 b) 0).snd+2)).fst.length 1 none)],[],(decide ((List.take 2000 b).length=(List.take 2000 b).length)&&(byteB (List.take 2000 b)&&((!(kdr (List.take 2000 b) 0).1.5)&&((!(kdr (List.take 2000 b) 0).1.5)&&((!(kdr (List.take 2000 b) 0).1.5)&&((!(kdr (List.take 2000 b) 0).1.5)&&((!(↑(kdr (List.take 2000 b) 0).1.3.length:Int)==0)&&(decide ((List.take 2000 b).length=(List.take 2000 b).length)&&(byteB (List.take 2000 b)&&(decide (0≤(kdr (List.take 2000 b) 0).snd)&&(decide ((kdr (List.take 2000 b) 0).snd≤900000)&&(decide ((List.take 2000 b).length=(List.take 2000 b).length)&&(byteB (List.take 2000 b)&&(decide (0≤(kdr (List.take 2000 b) 0).snd+2)&&((decide ((kdr (List.take 2000 b) 0).snd+2≤900000))&&true))))))))))))))),[]⟩:=by kernel_rfl
end Go.Proofs.YthapjdpkelihiaaGreat.Am
end
section
namespace Go.Proofs.YthapjdpkelihiaaGreat.Am
def dkQ (b:List Int):PK×Int:=bif (dkR b).on then(bif decide (pk (b.take 2000) (kdr (b.take 2000) 0).2 3>0)then(bif ((redoK (dkR b)).b.length:Int)==0 then kdr (b.take 2000) ((kdr (b.take 2000) 0).2+1)else(redoK (dkR b),(kdr (b.take 2000) 0).2+1))else(dkR b,(kdr (b.take 2000) 0).2+1))else(dkR b,(kdr (b.take 2000) 0).2)
def dkK (b:List Int):Int:=kdV (b.take 2000) (dkQ b).2
def dkD (b:List Int):List Int:=(vcL (b.take 2000) ((dkQ b).2+2)).1
def FFdkB:Model:=fun args h=>
 match args,h with
 |[.c (.view _ (.ints .u8 b) n 1 _)],[]=>
  some (.tup [.agg (dkQ b).1.vcells,.c (.int .i64 (dkK b)),.c (.view none (.ints .i64 (dkD b)) (dkD b).length 1 none)],[],[byteB b])
 |_,_=>none
theorem m34:ModelN Tryz.prog 16 FFdkB:=by
 intro args h res h' o hnorm he ho
 unfold FFdkB at he
 split at he
 case h_2=>cases he
 rename_i nl b n cap
 simp only[Option.some.injEq,Prod.mk.injEq]at he
 obtain⟨rfl,rfl,rfl⟩:=he
 simp only[List.mem_cons,List.not_mem_nil,or_false,forall_eq_or_imp,forall_eq,decide_eq_true_eq]at ho
 have o1:=ho
 simp only[normA,AV.norm,normL,Cell.norm,Con.size,List.cons.injEq,AV.c.injEq,AV.agg.injEq,Cell.view.injEq,nlen_one,true_and,and_true]at hnorm
 obtain⟨rfl,rfl,rfl⟩:=hnorm
 obtain⟨⟨z1,z2,z3,z4⟩,s2,s3⟩:=kdr_sz (b.take 2000) (p:=0) (by omega)
 obtain⟨-,y2,y3⟩:=kdr_sz (b.take 2000) (p:=(kdr (b.take 2000) 0).2+1) (by omega)
 have n8:(((8:Nat):Int)==0)=false:=rfl
 unfold dkK dkD
 have q: ∀x,dkQ b=x→dkQ b=x:=fun _ h=>h
 cases ho:(dkR b).on with
 |false=>
  have ho':(kdr (b.take 2000) 0).1.on=false:=ho
  have e1:dkQ b=(dkR b,(kdr (b.take 2000) 0).2):=by unfold dkQ;rw[ho];rfl
  rw[e1]
  exact meets_of t73 (by kernel_rfl) (by kernel_rfl) (x34v_6 b) (by simp only[byteB_take o1,ho',z2,n8,bS];omega) (by simp) (fun cc _=>LcOk.nil)
 |true=>
  have ho':(kdr (b.take 2000) 0).1.on=true:=ho
  cases hp:decide (pk (b.take 2000) (kdr (b.take 2000) 0).2 3>0)with
  |false=>
   have e1:dkQ b=(dkR b,(kdr (b.take 2000) 0).2+1):=by unfold dkQ;rw[ho,hp];rfl
   rw[e1]
   exact meets_of t73 (by kernel_rfl) (by kernel_rfl) (x34v_4 b) (by simp only[byteB_take o1,ho',hp,z2,n8,bS];omega) (by simp) (fun cc _=>LcOk.nil)
  |true=>
   cases hr:((redoK (dkR b)).b.length:Int)==0 with
   |true=>
    have hr2:(((redoK (kdr (b.take 2000) 0).1).b.length:Int)==0)=true:=hr
    have e1:dkQ b=kdr (b.take 2000) ((kdr (b.take 2000) 0).2+1):=by unfold dkQ;rw[ho,hp,hr];rfl
    rw[e1]
    exact meets_of t73 (by kernel_rfl) (by kernel_rfl) (x34v_1 b) (by simp only[byteB_take o1,ho',hp,hr2,z1,bS];omega) (by simp) (fun cc _=>LcOk.nil)
   |false=>
    have hr2:(((redoK (kdr (b.take 2000) 0).1).b.length:Int)==0)=false:=hr
    have e1:dkQ b=(redoK (dkR b),(kdr (b.take 2000) 0).2+1):=by unfold dkQ;rw[ho,hp,hr];rfl
    rw[e1]
    exact meets_of t73 (by kernel_rfl) (by kernel_rfl) (x34v_2 b) (by simp only[byteB_take o1,ho',hp,hr2,z1,bS];omega) (by simp) (fun cc _=>LcOk.nil)
theorem dkQ_sz (b:List Int):(dkQ b).1.a.length≤8∧(dkQ b).1.d.length≤4∧(dkD b).length≤4:=by
 obtain⟨⟨z1,z2,z3,z4⟩,s2,s3⟩:=kdr_sz (b.take 2000) (p:=0) (by omega)
 obtain⟨⟨u1,u2,u3,u4⟩,-,-⟩:=kdr_sz (b.take 2000) (p:=(kdr (b.take 2000) 0).2+1) (by omega)
 have hr:=redo_sz (x:=dkR b)
 have key:(dkQ b).1.a.length≤8∧(dkQ b).1.d.length≤4:=by
  unfold dkQ
  cases (dkR b).on with
  |false=>exact⟨Nat.le_of_eq z1,z4⟩
  |true=>
   rw[cond_true]
   cases decide (pk (b.take 2000) (kdr (b.take 2000) 0).2 3>0)with
   |false=>exact⟨Nat.le_of_eq z1,z4⟩
   |true=>
    rw[cond_true]
    cases ((redoK (dkR b)).b.length:Int)==0 with
    |true=>exact⟨Nat.le_of_eq u1,u4⟩
    |false=>exact hr
 exact⟨key.1,key.2,(vcL_ok _).1⟩
noncomputable def T74:List Entry:=[⟨16,[],nm FFdkB⟩]++T73
theorem e74:EntriesOk Tryz.prog T74:=by
 refine EntriesOk.append ?_ e73
 intro e he
 simp only[List.mem_cons,List.not_mem_nil,or_false]at he
 subst he;exact m34.ok
theorem t74:CtOk Tryz.prog (ctOf T74):=ctOf_ok e74
end Go.Proofs.YthapjdpkelihiaaGreat.Am
end
section
namespace Go.Proofs.YthapjdpkelihiaaGreat.Am
noncomputable abbrev f21:=Tryz.f23
noncomputable def I21 (a b:List Int) (i:Int):St:=stOf f21.ntmps [(0,.c (.view none (.ints .i64 a) a.length 1 none)),(1,.c (.view none (.ints .i64 b) b.length 1 none)),(5,.c (.int .i64 i))] []
noncomputable def X21:St:=stOf f21.ntmps [] []
noncomputable def Y21:St:=stOf f21.ntmps [(4,.c (.bool false))] []
theorem r21_1 (a b:List Int) (i:Int):roundR 0 (liveH f21 0) (liveB' f21 0) (evalC tt (ctOf T74) ([]) 0 100 (bodyAt 0 (codeOf f21)) (I21 a b i) [(0,true),(0,true)])=
  some (.ret,(decide (i<(↑a.length:Int))&&(decide (0≤i)&&(decide (i<(↑a.length:Int))&&(decide (i.toNat<a.length)&&(decide (0≤i)&&(decide (i<(↑b.length:Int))&&(decide (i.toNat<b.length)&&((a.getD i.toNat 0 !=b.getD i.toNat 0)&&true)))))))),[],Y21):=by kernel_rfl
theorem r21_2 (a b:List Int) (i:Int):roundR 0 (liveH f21 0) (liveB' f21 0) (evalC tt (ctOf T74) ([]) 0 100 (bodyAt 0 (codeOf f21)) (I21 a b i) [(0,true),(0,false)])=
  some (.normal,(decide (i<(↑a.length:Int))&&(decide (0≤i)&&(decide (i<(↑a.length:Int))&&(decide (i.toNat<a.length)&&(decide (0≤i)&&(decide (i<(↑b.length:Int))&&(decide (i.toNat<b.length)&&((!a.getD i.toNat 0 !=b.getD i.toNat 0)&&true)))))))),[],I21 a b (IntKind.i64.wrap (i+1))):=by kernel_rfl
theorem r21_3 (a b:List Int) (i:Int):roundR 0 (liveH f21 0) (liveB' f21 0) (evalC tt (ctOf T74) ([]) 0 100 (bodyAt 0 (codeOf f21)) (I21 a b i) [(0,false)])=
  some (.exit 0,((!decide (i<(↑a.length:Int)))&&true),[],X21):=by kernel_rfl
theorem x21_1 (a b:List Int) (lcv:List (Nat×LC)):evalF tt (ctOf T74) (lcv) 100 f21 [.c (.view none (.ints .i64 a) a.length 1 none),.c (.view none (.ints .i64 b) b.length 1 none)] [] [(0,true)]=
  some ⟨.c (.bool false),[],(((↑a.length:Int)!=(↑b.length:Int))&&true),[]⟩:=by kernel_rfl
theorem x21_2 (a b:List Int):evalF tt (ctOf T74) ([(0,⟨liveH f21 0,I21 a b 0,.normal,X21⟩)]) 100 f21 [.c (.view none (.ints .i64 a) a.length 1 none),.c (.view none (.ints .i64 b) b.length 1 none)] [] [(0,false)]=
  some ⟨.c (.bool true),[],((!(↑a.length:Int)!=(↑b.length:Int))&&true),[I21 a b 0=I21 a b 0]⟩:=by kernel_rfl
theorem x21r_2 (a b:List Int):evalF tt (ctOf T74) ([(0,⟨liveH f21 0,I21 a b 0,.ret,Y21⟩)]) 100 f21 [.c (.view none (.ints .i64 a) a.length 1 none),.c (.view none (.ints .i64 b) b.length 1 none)] [] [(0,false)]=
  some ⟨.c (.bool false),[],((!(↑a.length:Int)!=(↑b.length:Int))&&true),[I21 a b 0=I21 a b 0]⟩:=by kernel_rfl
noncomputable abbrev f92:=Tryz.f79
noncomputable def I92 (a b:List Bool) (i:Int):St:=stOf f92.ntmps [(0,.c (.view none (.bools a) a.length 1 none)),(1,.c (.view none (.bools b) b.length 1 none)),(5,.c (.int .i64 i))] []
noncomputable def X92:St:=stOf f92.ntmps [] []
noncomputable def Y92:St:=stOf f92.ntmps [(4,.c (.bool false))] []
theorem r92_1 (a b:List Bool) (i:Int):roundR 0 (liveH f92 0) (liveB' f92 0) (evalC tt (ctOf T74) ([]) 0 100 (bodyAt 0 (codeOf f92)) (I92 a b i) [(0,true),(0,true)])=
  some (.ret,(decide (i<(↑a.length:Int))&&(decide (0≤i)&&(decide (i<(↑a.length:Int))&&(decide (i.toNat<a.length)&&(decide (0≤i)&&(decide (i<(↑b.length:Int))&&(decide (i.toNat<b.length)&&((!a.getD i.toNat false==b.getD i.toNat false)&&true)))))))),[],Y92):=by kernel_rfl
theorem r92_2 (a b:List Bool) (i:Int):roundR 0 (liveH f92 0) (liveB' f92 0) (evalC tt (ctOf T74) ([]) 0 100 (bodyAt 0 (codeOf f92)) (I92 a b i) [(0,true),(0,false)])=
  some (.normal,(decide (i<(↑a.length:Int))&&(decide (0≤i)&&(decide (i<(↑a.length:Int))&&(decide (i.toNat<a.length)&&(decide (0≤i)&&(decide (i<(↑b.length:Int))&&(decide (i.toNat<b.length)&&((!!a.getD i.toNat false==b.getD i.toNat false)&&true)))))))),[],I92 a b (IntKind.i64.wrap (i+1))):=by kernel_rfl
theorem r92_3 (a b:List Bool) (i:Int):roundR 0 (liveH f92 0) (liveB' f92 0) (evalC tt (ctOf T74) ([]) 0 100 (bodyAt 0 (codeOf f92)) (I92 a b i) [(0,false)])=
  some (.exit 0,((!decide (i<(↑a.length:Int)))&&true),[],X92):=by kernel_rfl
theorem x92_1 (a b:List Bool) (lcv:List (Nat×LC)):evalF tt (ctOf T74) (lcv) 100 f92 [.c (.view none (.bools a) a.length 1 none),.c (.view none (.bools b) b.length 1 none)] [] [(0,true)]=
  some ⟨.c (.bool false),[],(((↑a.length:Int)!=(↑b.length:Int))&&true),[]⟩:=by kernel_rfl
theorem x92_2 (a b:List Bool):evalF tt (ctOf T74) ([(0,⟨liveH f92 0,I92 a b 0,.normal,X92⟩)]) 100 f92 [.c (.view none (.bools a) a.length 1 none),.c (.view none (.bools b) b.length 1 none)] [] [(0,false)]=
  some ⟨.c (.bool true),[],((!(↑a.length:Int)!=(↑b.length:Int))&&true),[I92 a b 0=I92 a b 0]⟩:=by kernel_rfl
theorem x92r_2 (a b:List Bool):evalF tt (ctOf T74) ([(0,⟨liveH f92 0,I92 a b 0,.ret,Y92⟩)]) 100 f92 [.c (.view none (.bools a) a.length 1 none),.c (.view none (.bools b) b.length 1 none)] [] [(0,false)]=
  some ⟨.c (.bool false),[],((!(↑a.length:Int)!=(↑b.length:Int))&&true),[I92 a b 0=I92 a b 0]⟩:=by kernel_rfl
def lkIF (a b:List Int) (i:Nat):Bool:= !(a.getD i 0 !=b.getD i 0)
def lkI (a b:List Int):Bool:=((a.length:Int)==(b.length:Int))&&allR (lkIF a b) a.length 0
theorem l21 (a b:List Int) (hl:a.length=b.length) (hn:a.length≤274877906944):
  Good Tryz.prog 0 (.block 0 (.loop (bodyAt 0 (codeOf f21)))) (I21 a b 0) fun e t=>e=(bif allR (lkIF a b) a.length 0 then .normal else .ret)∧t=bif allR (lkIF a b) a.length 0 then X21 else Y21:=by
 refine Good.all hT t74 hmix a.length (lkIF a b) (fun i=>I21 a b i) X21 Y21 .ret (.inr rfl) (liveH f21 0) (liveB' f21 0) (fun _=>[]) (fun _ _=>LcOk.nil) (fun i hi h=> ?_) (fun i hi h=> ?_)
  ⟨_,_,⟨_,_,r21_3 a b a.length,by simp,by simp⟩⟩
 ·unfold lkIF at h
  rw[Bool.not_eq_true']at h
  have e:=r21_2 a b i
  rw[wrap_small (by omega) (by omega),Int.toNat_natCast]at e
  refine⟨_,_,⟨_,_,e, ?_,by simp⟩⟩
  simp only[h,bS]
  omega
 ·unfold lkIF at h
  rw[Bool.not_eq_false']at h
  rw[if_neg (by intro h;cases h)]
  have e:=r21_1 a b i
  rw[Int.toNat_natCast]at e
  refine⟨_,_,⟨_,_,e, ?_,by simp⟩⟩
  simp only[h,bS]
  omega
def FFlkI:Model:=fun args h=>
 match args,h with
 |[.c (.view _ (.ints .i64 a) n1 1 _),.c (.view _ (.ints .i64 b) n2 1 _)],[]=>
  some (.c (.bool (lkI a b)),[],[decide (a.length≤274877906944)])
 |_,_=>none
theorem m21:ModelN Tryz.prog 23 FFlkI:=by
 intro args h res h' o hnorm he ho
 unfold FFlkI at he
 split at he
 case h_2=>cases he
 rename_i nl a n1 cap nl2 b n2 cap2
 simp only[Option.some.injEq,Prod.mk.injEq]at he
 obtain⟨rfl,rfl,rfl⟩:=he
 simp only[List.mem_cons,List.not_mem_nil,or_false,forall_eq_or_imp,forall_eq,decide_eq_true_eq]at ho
 have o1:=ho
 simp only[normA,AV.norm,normL,Cell.norm,Con.size,List.cons.injEq,AV.c.injEq,AV.agg.injEq,Cell.view.injEq,nlen_one,true_and,and_true]at hnorm
 obtain⟨⟨rfl,rfl,rfl⟩,rfl,rfl,rfl⟩:=hnorm
 unfold lkI
 cases hl:((a.length:Int)==(b.length:Int))with
 |false=>exact meets_of t74 (fn:=f21) (by kernel_rfl) (by kernel_rfl) (x21_1 a b []) (by simp only[bne,hl,bS]) (by simp) (fun cc _=>LcOk.nil)
 |true=>
  have hl':a.length=b.length:=by have:=beq_iff_eq.1 hl;omega
  have g:=l21 a b hl' o1
  have hq: ∀x,allR (lkIF a b) a.length 0=x→allR (lkIF a b) a.length 0=x:=fun _ h=>h
  cases hx:allR (lkIF a b) a.length 0 with
  |true=>
   rw[hx]at g
   exact meets_of t74 (fn:=f21) (by kernel_rfl) (by kernel_rfl) (x21_2 a b) (by simp only[bne,hl,bS]) (by simp) (fun cc hcc=>LcOk.cons (c:=cc) (by cases hcc;kernel_rfl) (by cases hcc;exact g) LcOk.nil)
  |false=>
   rw[hx]at g
   exact meets_of t74 (fn:=f21) (by kernel_rfl) (by kernel_rfl) (x21r_2 a b) (by simp only[bne,hl,bS]) (by simp) (fun cc hcc=>LcOk.cons (c:=cc) (by cases hcc;kernel_rfl) (by cases hcc;exact g) LcOk.nil)
theorem lkI_refl (a:List Int):lkI a a=true:=by
 unfold lkI
 rw[beq_self_eq_true,Bool.true_and,allR_spec]
 intro i _ _
 unfold lkIF;simp
def lkBF (a b:List Bool) (i:Nat):Bool:=a.getD i false==b.getD i false
def lkB (a b:List Bool):Bool:=((a.length:Int)==(b.length:Int))&&allR (lkBF a b) a.length 0
theorem l92 (a b:List Bool) (hl:a.length=b.length) (hn:a.length≤274877906944):
  Good Tryz.prog 0 (.block 0 (.loop (bodyAt 0 (codeOf f92)))) (I92 a b 0) fun e t=>e=(bif allR (lkBF a b) a.length 0 then .normal else .ret)∧t=bif allR (lkBF a b) a.length 0 then X92 else Y92:=by
 refine Good.all hT t74 hmix a.length (lkBF a b) (fun i=>I92 a b i) X92 Y92 .ret (.inr rfl) (liveH f92 0) (liveB' f92 0) (fun _=>[]) (fun _ _=>LcOk.nil) (fun i hi h=> ?_) (fun i hi h=> ?_)
  ⟨_,_,⟨_,_,r92_3 a b a.length,by simp,by simp⟩⟩
 ·unfold lkBF at h
  have e:=r92_2 a b i
  rw[wrap_small (by omega) (by omega),Int.toNat_natCast]at e
  refine⟨_,_,⟨_,_,e, ?_,by simp⟩⟩
  simp only[h,bS]
  omega
 ·unfold lkBF at h
  rw[if_neg (by intro h;cases h)]
  have e:=r92_1 a b i
  rw[Int.toNat_natCast]at e
  refine⟨_,_,⟨_,_,e, ?_,by simp⟩⟩
  simp only[h,bS]
  omega
def FFlkB:Model:=fun args h=>
 match args,h with
 |[.c (.view _ (.bools a) n1 1 _),.c (.view _ (.bools b) n2 1 _)],[]=>
  some (.c (.bool (lkB a b)),[],[decide (a.length≤274877906944)])
 |_,_=>none
theorem m92:ModelN Tryz.prog 79 FFlkB:=by
 intro args h res h' o hnorm he ho
 unfold FFlkB at he
 split at he
 case h_2=>cases he
 rename_i nl a n1 cap nl2 b n2 cap2
 simp only[Option.some.injEq,Prod.mk.injEq]at he
 obtain⟨rfl,rfl,rfl⟩:=he
 simp only[List.mem_cons,List.not_mem_nil,or_false,forall_eq_or_imp,forall_eq,decide_eq_true_eq]at ho
 have o1:=ho
 simp only[normA,AV.norm,normL,Cell.norm,Con.size,List.cons.injEq,AV.c.injEq,AV.agg.injEq,Cell.view.injEq,nlen_one,true_and,and_true]at hnorm
 obtain⟨⟨rfl,rfl,rfl⟩,rfl,rfl,rfl⟩:=hnorm
 unfold lkB
 cases hl:((a.length:Int)==(b.length:Int))with
 |false=>exact meets_of t74 (fn:=f92) (by kernel_rfl) (by kernel_rfl) (x92_1 a b []) (by simp only[bne,hl,bS]) (by simp) (fun cc _=>LcOk.nil)
 |true=>
  have hl':a.length=b.length:=by have:=beq_iff_eq.1 hl;omega
  have g:=l92 a b hl' o1
  have hq: ∀x,allR (lkBF a b) a.length 0=x→allR (lkBF a b) a.length 0=x:=fun _ h=>h
  cases hx:allR (lkBF a b) a.length 0 with
  |true=>
   rw[hx]at g
   exact meets_of t74 (fn:=f92) (by kernel_rfl) (by kernel_rfl) (x92_2 a b) (by simp only[bne,hl,bS]) (by simp) (fun cc hcc=>LcOk.cons (c:=cc) (by cases hcc;kernel_rfl) (by cases hcc;exact g) LcOk.nil)
  |false=>
   rw[hx]at g
   exact meets_of t74 (fn:=f92) (by kernel_rfl) (by kernel_rfl) (x92r_2 a b) (by simp only[bne,hl,bS]) (by simp) (fun cc hcc=>LcOk.cons (c:=cc) (by cases hcc;kernel_rfl) (by cases hcc;exact g) LcOk.nil)
theorem lkB_refl (a:List Bool):lkB a a=true:=by
 unfold lkB
 rw[beq_self_eq_true,Bool.true_and,allR_spec]
 intro i _ _
 unfold lkBF;simp
def FFlkIt:Model:=fun args h=>
 match args,h with
 |[.c (.view _ (.ints .i64 a) n1 1 _),.c (.view _ (.ints .i64 b) n2 1 _)],[]=>
  some (.c (.bool true),[],[decide (a.length≤274877906944),lkI a b])
 |_,_=>none
theorem m21t:ModelN Tryz.prog 23 FFlkIt:=by
 intro args h res h' o hnorm he ho
 unfold FFlkIt at he
 split at he
 case h_2=>cases he
 rename_i nl a n1 cap nl2 b n2 cap2
 simp only[Option.some.injEq,Prod.mk.injEq]at he
 obtain⟨rfl,rfl,rfl⟩:=he
 simp only[List.mem_cons,List.not_mem_nil,or_false,forall_eq_or_imp,forall_eq,decide_eq_true_eq]at ho
 obtain⟨o1,o2⟩:=ho
 rw[←o2]
 exact m21 _ _ _ _ _ hnorm rfl (by simp[o1])
def FFlkBt:Model:=fun args h=>
 match args,h with
 |[.c (.view _ (.bools a) n1 1 _),.c (.view _ (.bools b) n2 1 _)],[]=>
  some (.c (.bool true),[],[decide (a.length≤274877906944),lkB a b])
 |_,_=>none
theorem m92t:ModelN Tryz.prog 79 FFlkBt:=by
 intro args h res h' o hnorm he ho
 unfold FFlkBt at he
 split at he
 case h_2=>cases he
 rename_i nl a n1 cap nl2 b n2 cap2
 simp only[Option.some.injEq,Prod.mk.injEq]at he
 obtain⟨rfl,rfl,rfl⟩:=he
 simp only[List.mem_cons,List.not_mem_nil,or_false,forall_eq_or_imp,forall_eq,decide_eq_true_eq]at ho
 obtain⟨o1,o2⟩:=ho
 rw[←o2]
 exact m92 _ _ _ _ _ hnorm rfl (by simp[o1])
noncomputable def T75:List Entry:=[⟨23,[],nm FFlkIt⟩,⟨79,[],nm FFlkBt⟩]++T74
theorem e75:EntriesOk Tryz.prog T75:=by
 refine EntriesOk.append ?_ e74
 intro e he
 simp only[List.mem_cons,List.not_mem_nil,or_false]at he
 rcases he with rfl|rfl
 ·exact m21t.ok
 ·exact m92t.ok
theorem t75:CtOk Tryz.prog (ctOf T75):=ctOf_ok e75
theorem x37_1 (k k':Int) (a a' b b':List Int) (c c':List Bool):evalF tt (ctOf T75) ([]) 100 Tryz.f24 [.agg [.int .i64 k,.view none (.ints .i64 a) a.length 1 none,.view none (.ints .i64 b) b.length 1 none,.view none (.bools c) c.length 1 none],.agg [.int .i64 k',.view none (.ints .i64 a') a'.length 1 none,.view none (.ints .i64 b') b'.length 1 none,.view none (.bools c') c'.length 1 none]] [] [(0,true),(0,true),(0,true)]=
  some ⟨.c (.bool (bif bif bif k==k' then true else false then true else false then true else false)),[],((k==k')&&((k==k')&&((k==k')&&((k==k')&&((k==k')&&(decide (a.length≤274877906944)&&(lkI a a'&&((bif k==k' then true else false)&&((bif k==k' then true else false)&&((bif k==k' then true else false)&&((bif k==k' then true else false)&&((bif k==k' then true else false)&&(decide (b.length≤274877906944)&&(lkI b b'&&((bif bif k==k' then true else false then true else false)&&((bif bif k==k' then true else false then true else false)&&((bif bif k==k' then true else false then true else false)&&((bif bif k==k' then true else false then true else false)&&((bif bif k==k' then true else false then true else false)&&(decide (c.length≤274877906944)&&((lkB c c')&&true))))))))))))))))))))),[]⟩:=by kernel_rfl
def FFlkS:Model:=fun args h=>
 match args,h with
 |[.agg [.int .i64 k,.view _ (.ints .i64 a) n1 1 _,.view _ (.ints .i64 b) n2 1 _,.view _ (.bools c) n3 1 _],.agg [.int .i64 k',.view _ (.ints .i64 a') n1' 1 _,.view _ (.ints .i64 b') n2' 1 _,.view _ (.bools c') n3' 1 _]],[]=>
  some (.c (.bool true),[],[k==k',decide (a.length≤274877906944),lkI a a',decide (b.length≤274877906944),lkI b b',decide (c.length≤274877906944),lkB c c'])
 |_,_=>none
theorem m37:ModelN Tryz.prog 24 FFlkS:=by
 intro args h res h' o hnorm he ho
 unfold FFlkS at he
 split at he
 case h_2=>cases he
 rename_i k nl1 a n1 cap1 nl2 b n2 cap2 nl3 c n3 cap3 k' nl1' a' n1' cap1' nl2' b' n2' cap2' nl3' c' n3' cap3'
 simp only[Option.some.injEq,Prod.mk.injEq]at he
 obtain⟨rfl,rfl,rfl⟩:=he
 simp only[List.mem_cons,List.not_mem_nil,or_false,forall_eq_or_imp,forall_eq,decide_eq_true_eq]at ho
 obtain⟨o1,o2,o3,o4,o5,o6,o7⟩:=ho
 simp only[normA,AV.norm,normL,Cell.norm,Con.size,List.cons.injEq,AV.c.injEq,AV.agg.injEq,Cell.view.injEq,nlen_one,true_and,and_true]at hnorm
 obtain⟨⟨⟨rfl,rfl,rfl⟩,⟨rfl,rfl,rfl⟩,rfl,rfl,rfl⟩,⟨rfl,rfl,rfl⟩,⟨rfl,rfl,rfl⟩,rfl,rfl,rfl⟩:=hnorm
 have e:=x37_1 k k' a a' b b' c c'
 rw[o1]at e
 exact meets_of t75 (by kernel_rfl) (by kernel_rfl) e (by simp only[o1,o2,o3,o4,o5,o6,o7,bS]) (by simp) (fun cc _=>LcOk.nil)
noncomputable def T76:List Entry:=[⟨24,[],nm FFlkS⟩]++T75
theorem e76:EntriesOk Tryz.prog T76:=by
 refine EntriesOk.append ?_ e75
 intro e he
 simp only[List.mem_cons,List.not_mem_nil,or_false]at he
 subst he;exact m37.ok
theorem t76:CtOk Tryz.prog (ctOf T76):=ctOf_ok e76
theorem x17_1 (k:Int) (a b:List Int) (c:List Bool) (on:Bool) (kd:Int) (d:List Int) (vs:Int) (k':Int) (a' b':List Int) (c':List Bool) (on':Bool) (kd':Int) (d':List Int) (vs':Int):evalF tt (ctOf T76) ([]) 100 Tryz.f12 [.agg [.int .i64 k,.view none (.ints .i64 a) a.length 1 none,.view none (.ints .i64 b) b.length 1 none,.view none (.bools c) c.length 1 none,.bool on,.int .i64 kd,.view none (.ints .i64 d) d.length 1 none,.int .i64 vs],.agg [.int .i64 k',.view none (.ints .i64 a') a'.length 1 none,.view none (.ints .i64 b') b'.length 1 none,.view none (.bools c') c'.length 1 none,.bool on',.int .i64 kd',.view none (.ints .i64 d') d'.length 1 none,.int .i64 vs']] [] [(1,true),(0,true),(0,true)]=
  some ⟨.c (.bool (bif bif bif on==on' then kd==kd' else false then true else false then vs==vs' else false)),[],((k==k')&&(decide (a.length≤274877906944)&&(lkI a a'&&(decide (b.length≤274877906944)&&(lkI b b'&&(decide (c.length≤274877906944)&&(lkB c c'&&((on==on')&&((on==on')&&((on==on')&&((on==on')&&((on==on')&&((bif on==on' then kd==kd' else false)&&((bif on==on' then kd==kd' else false)&&((bif on==on' then kd==kd' else false)&&((bif on==on' then kd==kd' else false)&&((bif on==on' then kd==kd' else false)&&(decide (d.length≤274877906944)&&(lkI d d'&&((bif bif on==on' then kd==kd' else false then true else false)&&((bif bif on==on' then kd==kd' else false then true else false)&&((bif bif on==on' then kd==kd' else false then true else false)&&((bif bif on==on' then kd==kd' else false then true else false)&&((bif bif on==on' then kd==kd' else false then true else false)&&true)))))))))))))))))))))))),[]⟩:=by kernel_rfl
end Go.Proofs.YthapjdpkelihiaaGreat.Am
end
section
namespace Go.Proofs.YthapjdpkelihiaaGreat.Am
def kpE (x y:PK):Bool:=(x.k==y.k)&&(lkI x.a y.a&&(lkI x.b y.b&&(lkB x.c y.c&&((x.on==y.on)&&((x.kd==y.kd)&&(lkI x.d y.d&&(x.vs==y.vs)))))))
theorem kpE_refl (x:PK):kpE x x=true:=by
 simp only[kpE,lkI_refl,lkB_refl,beq_self_eq_true,Bool.and_self]
def FFlkK:Model:=fun args h=>
 match args,h with
 |[.agg [.int .i64 k,.view _ (.ints .i64 a) n1 1 _,.view _ (.ints .i64 b) n2 1 _,.view _ (.bools c) n3 1 _,.bool on,.int .i64 kd,.view _ (.ints .i64 d) n4 1 _,.int .i64 vs],.agg [.int .i64 k',.view _ (.ints .i64 a') n1' 1 _,.view _ (.ints .i64 b') n2' 1 _,.view _ (.bools c') n3' 1 _,.bool on',.int .i64 kd',.view _ (.ints .i64 d') n4' 1 _,.int .i64 vs']],[]=>
  some (.c (.bool true),[],[decide (a.length≤274877906944),decide (b.length≤274877906944),decide (c.length≤274877906944),decide (d.length≤274877906944),kpE ⟨k,a,b,c,on,kd,d,vs⟩ ⟨k',a',b',c',on',kd',d',vs'⟩])
 |_,_=>none
theorem m17:ModelN Tryz.prog 12 FFlkK:=by
 intro args h res h' o hnorm he ho
 unfold FFlkK at he
 split at he
 case h_2=>cases he
 rename_i k nl1 a n1 cap1 nl2 b n2 cap2 nl3 c n3 cap3 on kd nl4 d n4 cap4 vs k' nl1' a' n1' cap1' nl2' b' n2' cap2' nl3' c' n3' cap3' on' kd' nl4' d' n4' cap4' vs'
 simp only[Option.some.injEq,Prod.mk.injEq]at he
 obtain⟨rfl,rfl,rfl⟩:=he
 simp only[List.mem_cons,List.not_mem_nil,or_false,forall_eq_or_imp,forall_eq,decide_eq_true_eq]at ho
 obtain⟨o1,o2,o3,o4,o5⟩:=ho
 simp only[normA,AV.norm,normL,Cell.norm,Con.size,List.cons.injEq,AV.c.injEq,AV.agg.injEq,Cell.view.injEq,nlen_one,true_and,and_true]at hnorm
 obtain⟨⟨⟨rfl,rfl,rfl⟩,⟨rfl,rfl,rfl⟩,⟨rfl,rfl,rfl⟩,rfl,rfl,rfl⟩,⟨rfl,rfl,rfl⟩,⟨rfl,rfl,rfl⟩,⟨rfl,rfl,rfl⟩,rfl,rfl,rfl⟩:=hnorm
 simp only[kpE,Bool.and_eq_true]at o5
 obtain⟨e1,e2,e3,e4,e5,e6,e7,e8⟩:=o5
 have e:=x17_1 k a b c on kd d vs k' a' b' c' on' kd' d' vs'
 rw[e5,e6,e8]at e
 exact meets_of t76 (by kernel_rfl) (by kernel_rfl) e (by simp only[e1,e2,e3,e4,e5,e6,e7,e8,o1,o2,o3,o4,bS]) (by simp) (fun cc _=>LcOk.nil)
def FFdkT:Model:=fun args h=>
 match args,h with
 |[.c (.view _ (.ints .u8 b) n 1 _)],[]=>
  some (.tup [.agg (dkQ b).1.vcells,.c (.int .i64 (dkK b))],[],[byteB b])
 |_,_=>none
noncomputable def T77:List Entry:=[⟨12,[],nm FFlkK⟩]++T76
theorem e77:EntriesOk Tryz.prog T77:=by
 refine EntriesOk.append ?_ e76
 intro e he
 simp only[List.mem_cons,List.not_mem_nil,or_false]at he
 subst he;exact m17.ok
theorem t77:CtOk Tryz.prog (ctOf T77):=ctOf_ok e77
end Go.Proofs.YthapjdpkelihiaaGreat.Am
end
section
namespace Go.Proofs.YthapjdpkelihiaaGreat.Am
def PK.rD (x:PK):List Int:=krD x.k x.a x.b x.c x.on x.kd x.d x.vs
def PK.rB (x:PK):Bool:=krB x.k x.a x.b x.c x.on x.kd x.d x.vs
theorem PK.kok {x:PK} (h:x.ok=true):kokL x.k x.a x.b x.c x.on x.kd x.d x.vs=true:=h
theorem rB_ok {x:PK} (h:x.ok=true):x.rB=true:=by
 unfold PK.rB krB
 rw[x.kok h,cond_true]
 cases ho:x.on with
 |true=>rfl
 |false=>rw[cond_false];exact(x.offK h ho).rd
theorem rD_on {x:PK} (h:x.ok=true) (ho:x.on=true):x.rD=x.d:=by
 unfold PK.rD krD
 rw[x.kok h,cond_true,ho];rfl
theorem rD_off {x:PK} (h:x.ok=true) (ho:x.on=false):x.rD=rdD x.k x.a x.b x.c:=by
 unfold PK.rD krD
 rw[x.kok h,cond_true,ho,cond_false]
theorem redo_off {x:PK} (h:x.ok=true) (ho:x.on=false):redoK x=x:=by
 unfold redoK
 rw[h,cond_true,ho];rfl
theorem redo_on {x:PK} (h:x.ok=true) (ho:x.on=true):redoK x=⟨x.kd,encI x.kd x.d,rep8 x.vs,rep8 true,false,0,[],0⟩:=by
 unfold redoK
 rw[h,cond_true,ho];rfl
theorem redo_facts {x:PK} (h:x.ok=true):(redoK x).on=false∧(redoK x).ok=true∧redoK (redoK x)=redoK x∧(redoK x).rB=true∧(redoK x).rD=x.rD:=by
 have hk:=ok_redo h
 have h1:(redoK x).on=false:=by
  cases ho:x.on with
  |true=>rw[redo_on h ho]
  |false=>rw[redo_off h ho];exact ho
 refine⟨h1,hk,redo_off hk h1,rB_ok hk, ?_⟩
 cases ho:x.on with
 |false=>rw[redo_off h ho]
 |true=>
  rw[rD_off hk h1,rD_on h ho,redo_on h ho]
  have K:=x.onK h ho
  show rdD x.kd (encI x.kd x.d) (rep8 x.vs) (rep8 true)=x.d
  rw[encI_eq K.hd]
  exact(whole_ok K.hkd K.hd K.hvs).2.2.2
theorem redo_szs (x:PK):(redoK x).a.length≤8∧(redoK x).b.length≤8∧(redoK x).c.length≤8∧(redoK x).d.length≤4:=by
 cases h:x.ok with
 |true=>
  obtain⟨g4,ga,gb,gc⟩:=ok_dlen (ok_redo h)
  omega
 |false=>
  have e:redoK x=PK0:=by unfold redoK;rw[h];rfl
  rw[e]
  exact⟨by show 0≤8;omega,by show 0≤8;omega,by show 0≤8;omega,by show 0≤4;omega⟩
theorem rD_len {x:PK} (h:x.d.length≤4):x.rD.length≤274877906944:=krD_len _ _ _ _ _ _ _ _ (by omega)
end Go.Proofs.YthapjdpkelihiaaGreat.Am
end
section
namespace Go.Proofs.YthapjdpkelihiaaGreat.Am
theorem left_all {b:List Int} {vs:Int} (hb:b.length=8) (h: ∀i,i<8→b.getD i 0≠vs):leftL b vs=8:=by
 have key:=runN_inv0 (step:=leftS b vs) (fun n x=>x=n) b.length 0 rfl fun n x hn h'=>by
  show leftS b vs n x=_
  unfold leftS
  have:(b.getD n 0 !=vs)=true:=by rw[bne_iff_ne];exact h n (by omega)
  rw[this,cond_true,h',wrap_small (by omega) (by omega)]
  rfl
 show runN (leftS b vs) b.length 0 0=8
 rw[key,hb];rfl
theorem beg_facts {x:PK} {kind:Int} {e:List Int} (h:begB x kind e=true):(begK x kind e).ok=true∧(begK x kind e).rB=true∧(begK x kind e).rD=e∧(begK x kind e).k=x.k∧(begK x kind e).a=x.a∧(begK x kind e).b=x.b∧(begK x kind e).c=x.c∧(begK x kind e).kd=kind∧tlN (begK x kind e)=8∧(begK x kind e).on=true:=by
 have hk:=ok_beg h
 obtain⟨h1,h2,h3,h4,h5,h6⟩:=begB_spec h
 have K:=x.offK h1 h4
 have ht:=K.s.top
 have h7:(begK x kind e).on=true:=by rw[h6]
 refine⟨hk,rB_ok hk, ?_,by rw[h6],by rw[h6],by rw[h6],by rw[h6],by rw[h6], ?_,h7⟩
 ·rw[rD_on hk h7,h6]
 ·unfold tlN
  rw[hk,cond_true,h7,cond_true,h6]
  show leftL x.b (topL x.b x.c+1)=8
  rw[ht]
  exact left_all K.s.hb fun i hi=>by
   have:=(mxL_spec x.b).1 i (by rw[K.s.hb];exact hi);omega
theorem beg_szs (x:PK) (kind:Int) {e:List Int} (he:e.length≤4):(begK x kind e).a.length≤8∧(begK x kind e).b.length≤8∧(begK x kind e).c.length≤8∧(begK x kind e).d.length≤4:=by
 unfold begK
 cases h:x.ok&&(bet kind 1 2&&elsOk e 4)with
 |false=>rw[cond_false];exact⟨by show 0≤8;omega,by show 0≤8;omega,by show 0≤8;omega,by show 0≤4;omega⟩
 |true=>
  rw[cond_true]
  rw[Bool.and_eq_true]at h
  obtain⟨g4,ga,gb,gc⟩:=ok_dlen h.1
  cases h2:x.on||(topL x.b x.c==99)with
  |true=>rw[cond_true];exact⟨by omega,by omega,by omega,g4⟩
  |false=>rw[cond_false];exact⟨Nat.le_of_eq ga,Nat.le_of_eq gb,Nat.le_of_eq gc,he⟩
end Go.Proofs.YthapjdpkelihiaaGreat.Am
end
section
namespace Go.Proofs.YthapjdpkelihiaaGreat.Am
theorem els4 {k:Int} {w v:List Int} (hk:bet k 1 2=true) (hv:allShard v=true):elsOk (sol4 k w v) 4=true:=by
 have h:=solL_fok (w:=w) hk hv
 have g:=fun i=>allFok_get h i
 unfold elsOk sol4
 simp only[allFok,List.all_cons,List.all_nil,g,Bool.and_true,List.length_cons,List.length_nil,Bool.true_and]
 rfl
theorem rd_els {x:PK} (h:x.ok=true):elsOk x.rD 4=true:=by
 cases ho:x.on with
 |true=>rw[rD_on h ho];exact(x.onK h ho).hd
 |false=>
  rw[rD_off h ho]
  have K:=x.offK h ho
  have hr:=K.rd
  unfold rdS at hr
  unfold rdD
  cases hv:rdV x.k x.a x.b x.c with
  |none=>rw[hv]at hr;cases hr
  |some y=>
   have hv':=hv
   unfold rdV at hv'
   have hb:rdB x.k x.a (ofL x.b x.c y)=true:=List.find?_some (p:=fun y=>rdB x.k x.a (ofL x.b x.c y)) hv'
   show elsOk (rdX x.k x.a (ofL x.b x.c y)) 4=true
   unfold rdX
   rw[hb,cond_true]
   exact els4 K.s.hk (by rw[ofL_eq];exact flg_shard (by rw[maskOfV_len];exact K.s.hc))
theorem tb_szs {x:PK} (kind:Int) (hd:x.d.length≤4):(tbK x kind).a.length≤8∧(tbK x kind).b.length≤8∧(tbK x kind).c.length≤8∧(tbK x kind).d.length≤4:=by
 unfold tbK
 cases h:x.ok&&bet kind 1 2 with
 |false=>rw[cond_false];exact⟨by show 0≤8;omega,by show 0≤8;omega,by show 0≤8;omega,by show 0≤4;omega⟩
 |true=>
  rw[cond_true]
  rw[Bool.and_eq_true]at h
  obtain⟨g4,ga,gb,gc⟩:=ok_dlen h.1
  cases h2:x.k==kind with
  |true=>rw[cond_true];exact⟨by omega,by omega,by omega,g4⟩
  |false=>rw[cond_false];exact beg_szs x kind (show x.rD.length≤4 by rw[(els_iff (rd_els h.1)).2];omega)
theorem tb_yes {x:PK} {kind:Int} (ho:tbB x kind=true):tbK x kind=begK x kind x.rD∧begB x kind x.rD=true:=by
 unfold tbB at ho
 unfold tbK
 cases h:x.ok&&bet kind 1 2 with
 |false=>rw[h]at ho;cases ho
 |true=>
  rw[h,cond_true]at ho
  rw[cond_true]
  cases h2:x.k==kind with
  |true=>rw[h2]at ho;cases ho
  |false=>rw[h2,cond_false]at ho;rw[cond_false];exact⟨rfl,ho⟩
end Go.Proofs.YthapjdpkelihiaaGreat.Am
end
section
namespace Go.Proofs.YthapjdpkelihiaaGreat.Am
end Go.Proofs.YthapjdpkelihiaaGreat.Am
end
section
namespace Go.Proofs.YthapjdpkelihiaaGreat.Am
structure Same (x y:PK):Prop where
 ok:y.ok=true
 on:y.on=true
 kd:y.kd=x.kd
 d:y.d=x.d
 vs:y.vs=x.vs
theorem Same.rfl' {x:PK} (h:x.ok=true) (ho:x.on=true):Same x x:=⟨h,ho,rfl,rfl,rfl⟩
theorem shardK_on {y:PK} {i:Int} (h:y.ok=true) (ho:y.on=true) (hi:bet i 0 7=true):shardK y i=shR y i:=by
 rw[shardK_eq h hi,ho,cond_true]
theorem Same.shR {x y:PK} (S:Same x y) {i:Int} (hi:bet i 0 7=true):Same x (shR y i):=
 ⟨ok_shR S.ok S.on hi,S.on,S.kd,S.d,S.vs⟩
theorem same_read {x y:PK} (S:Same x y):y.rB=true∧y.rD=x.d∧(redoK y).rB=true∧(redoK y).rD=x.d∧(redoK y).k=x.kd∧(redoK y).on=false:=by
 obtain⟨r1,r2,r3,r4,r5⟩:=redo_facts S.ok
 have e:=rD_on S.ok S.on
 refine⟨rB_ok S.ok,by rw[e,S.d],r4,by rw[r5,e,S.d],by rw[redo_on S.ok S.on,S.kd],r1⟩
end Go.Proofs.YthapjdpkelihiaaGreat.Am
end
section
namespace Go.Proofs.YthapjdpkelihiaaGreat.Am
end Go.Proofs.YthapjdpkelihiaaGreat.Am
end
section
namespace Go.Proofs.YthapjdpkelihiaaGreat.Am
theorem new_eq {x:PK} (h:x.ok=true) (ho:x.on=true):redoK x=snK x.kd x.d x.vs∧snB x.kd x.d x.vs=true:=by
 have K:=x.onK h ho
 have hb:snB x.kd x.d x.vs=true:=by unfold snB;rw[K.hkd,K.hd,K.hvs];rfl
 refine⟨?_,hb⟩
 unfold snK
 rw[hb,cond_true,redo_on h ho,encI_eq K.hd]
def stepC (i:Nat) (y:PK×Nat):PK×Nat:=(bif y.2%2==1 then shR y.1 (i:Int)else y.1,y.2/2)
theorem crash_inv {x:PK} (n:Nat) (h:x.ok=true) (ho:x.on=true) (m:Nat) (hm:m≤8):Same x (runN stepC m 0 (x,n)).1:=by
 refine runN_inv0 (step:=stepC) (fun m y=>Same x y.1) m (x,n) (Same.rfl' h ho) fun j y hj S=> ?_
 unfold stepC
 cases y.2%2==1 with
 |false=>exact S
 |true=>exact S.shR (bet_iff.2 ⟨by omega,by omega⟩)
theorem crash_facts {x y:PK} (S:Same x y):y.rB=true∧y.rD=x.d∧(redoK y).on=false∧redoK y=snK x.kd x.d x.vs∧snB x.kd x.d x.vs=true∧(redoK y).ok=true:=by
 obtain⟨s1,s2,s3,s4,s5,s6⟩:=same_read S
 obtain⟨e1,e2⟩:=new_eq S.ok S.on
 rw[S.kd,S.d,S.vs]at e1 e2
 exact⟨s1,s2,s6,e1,e2,ok_redo S.ok⟩
theorem tb_szs2 (x:PK) (i:Int):(tbK x i).a.length≤8∧(tbK x i).b.length≤8∧(tbK x i).c.length≤8∧(tbK x i).d.length≤4:=by
 cases h:x.ok with
 |true=>exact tb_szs i (ok_dlen h).1
 |false=>
  have e:tbK x i=PK0:=by unfold tbK;rw[h];rfl
  rw[e];exact⟨by show 0≤8;omega,by show 0≤8;omega,by show 0≤8;omega,by show 0≤4;omega⟩
def taK (x:PK) (i:Int):PK:=bif tbB x i then redoK (tbK x i)else tbK x i
theorem ta_szs (x:PK) (i:Int):(taK x i).a.length≤8∧(taK x i).b.length≤8∧(taK x i).c.length≤8∧(taK x i).d.length≤4:=by
 unfold taK
 cases tbB x i with
 |true=>rw[cond_true];exact redo_szs _
 |false=>rw[cond_false];exact tb_szs2 x i
theorem stop_new {k:Int} {d:List Int} {v:Int} (h:snB k d v=true):stopL (snK k d v).k (snK k d v).a (snK k d v).b (snK k d v).c=v:=by
 unfold snK
 rw[h,cond_true]
 simp only[snB,Bool.and_eq_true]at h
 obtain⟨S,-,-,-⟩:=whole_ok h.1 h.2.1 h.2.2
 show stopL k (encL k d) (rep8 v) (rep8 true)=v
 unfold stopL
 rw[sok_iff.2 S,cond_true,S.top,mx_all (bet_iff.1 h.2.2).1]
theorem turn_facts {x:PK} {kind:Int} (ho:tbB x kind=true):taK x kind=snK kind x.rD (stopL (taK x kind).k (taK x kind).a (taK x kind).b (taK x kind).c)∧snB kind x.rD (stopL (taK x kind).k (taK x kind).a (taK x kind).b (taK x kind).c)=true∧(taK x kind).on=false∧(taK x kind).ok=true∧(taK x kind).rD=x.rD:=by
 obtain⟨t1,t2⟩:=tb_yes ho
 obtain⟨f1,f2,f3,f4,f5,f6,f7,f8,f9,f10⟩:=beg_facts t2
 obtain⟨h1,h2,h3,h4,h5,h6⟩:=begB_spec t2
 have e:taK x kind=redoK (begK x kind x.rD):=by unfold taK;rw[ho,cond_true,t1]
 obtain⟨n1,n2⟩:=new_eq f1 f10
 obtain⟨r1,r2,r3,r4,r5⟩:=redo_facts f1
 have hd:(begK x kind x.rD).d=x.rD:=by rw[h6]
 rw[hd,f8]at n1 n2
 have hs:stopL (redoK (begK x kind x.rD)).k (redoK (begK x kind x.rD)).a (redoK (begK x kind x.rD)).b (redoK (begK x kind x.rD)).c=(begK x kind x.rD).vs:=by
  rw[n1];exact stop_new n2
 rw[e,hs]
 exact⟨n1,n2,r1,r2,r5.trans f3⟩
theorem back_facts {x:PK} {kind j:Int} (ho:tbB x kind=true) (hb:tbB (taK x kind) j=true):(taK (taK x kind) j).rB=true∧(taK (taK x kind) j).rD=x.rD∧(taK (taK x kind) j).k=j:=by
 obtain⟨-,-,-,-,e5⟩:=turn_facts ho
 obtain⟨b1,b2,b3,b4,b5⟩:=turn_facts hb
 refine⟨rB_ok b4,b5.trans e5, ?_⟩
 rw[b1]
 unfold snK
 rw[b2];rfl
end Go.Proofs.YthapjdpkelihiaaGreat.Am
end
section
namespace Go.Proofs.YthapjdpkelihiaaGreat.Am
def vwM (F:Model):Model:=fun args h=>
 match h with
 |[]=>(match F args []with
  |some (res,out,obl)=>(match vwA (Heap.get out) res with
   |some (res',o)=>some (res',[],obl++o)
   |none=>none)
  |none=>none)
 |_=>none
theorem ModelN.vw {P:Program} {f:FuncId} {F:Model} (hF:ModelN P f F):ModelN P f (vwM F):=by
 intro args h res h' o hn he ho
 unfold vwM at he
 split at he
 ·split at he
  ·rename_i r out obl hf
   split at he
   ·rename_i r' o2 hv
    simp only[Option.some.injEq,Prod.mk.injEq]at he
    obtain⟨rfl,rfl,rfl⟩:=he
    exact(hF _ _ _ _ _ hn hf fun b hb=>ho b (by simp[hb])).views hv fun b hb=>ho b (by simp[hb])
   ·cases he
  ·cases he
 ·cases he
end Go.Proofs.YthapjdpkelihiaaGreat.Am
end
section
namespace Go.Proofs.YthapjdpkelihiaaGreat.Am
theorem mul64M:ModelOk Tryz.prog 173 (inlM tt (ctOf T77) Tryz.f173 []):=inlM_ok hT t77 hmix _ (by kernel_rfl) (by kernel_rfl)
noncomputable def T83:List Entry:=[⟨173,[],inlM tt (ctOf T77) Tryz.f173 []⟩]++T77
theorem e83:EntriesOk Tryz.prog T83:=by
 refine EntriesOk.append ?_ e77
 intro e he
 simp only[List.mem_cons,List.not_mem_nil,or_false]at he
 subst he;exact mul64M
theorem t83:CtOk Tryz.prog (ctOf T83):=ctOf_ok e83
theorem mulM:ModelOk Tryz.prog 127 (inlM tt (ctOf T83) Tryz.f127 []):=inlM_ok hT t83 hmix _ (by kernel_rfl) (by kernel_rfl)
noncomputable def T84:List Entry:=[⟨127,[],inlM tt (ctOf T83) Tryz.f127 []⟩]++T83
theorem e84:EntriesOk Tryz.prog T84:=by
 refine EntriesOk.append ?_ e83
 intro e he
 simp only[List.mem_cons,List.not_mem_nil,or_false]at he
 subst he;exact mulM
theorem t84:CtOk Tryz.prog (ctOf T84):=ctOf_ok e84
theorem repI:ModelOk Tryz.prog 77 (inlM tt (ctOf T84) Tryz.f77 []):=inlM_ok hT t84 hmix _ (by kernel_rfl) (by kernel_rfl)
theorem repB:ModelOk Tryz.prog 78 (inlM tt (ctOf T84) Tryz.f78 []):=inlM_ok hT t84 hmix _ (by kernel_rfl) (by kernel_rfl)
noncomputable def T85:List Entry:=[⟨77,[0],inlM tt (ctOf T84) Tryz.f77 []⟩,⟨78,[0],inlM tt (ctOf T84) Tryz.f78 []⟩,⟨64,[],nm FFredoS⟩]++T84
theorem e85:EntriesOk Tryz.prog T85:=by
 refine EntriesOk.append ?_ e84
 intro e he
 simp only[List.mem_cons,List.not_mem_nil,or_false]at he
 rcases he with rfl|rfl|rfl
 ·exact repI
 ·exact repB
 ·exact m18.ok
theorem t85:CtOk Tryz.prog (ctOf T85):=ctOf_ok e85
theorem xSN_1 (k:Int) (v:List Int) (x:Int):evalF tt (ctOf T85) ([]) 100 Tryz.f22 [.c (.int .i64 k),.c (.view none (.ints .i64 v) v.length 1 none),.c (.int .i64 x)] [] [(0,true)]=
  some ⟨.tup [.agg [.int .i64 0,.nils,.nils,.nils],.c (.bool false)],[],(decide (v.length≤274877906944)&&(!elsOk v 4&&(!elsOk v 4&&(!elsOk v 4&&((!elsOk v 4)&&true))))),[]⟩:=by kernel_rfl
theorem xSN_2 (k:Int) (v:List Int) (x:Int):evalF tt (ctOf T85) ([]) 100 Tryz.f22 [.c (.int .i64 k),.c (.view none (.ints .i64 v) v.length 1 none),.c (.int .i64 x)] [] [(0,false),(0,true)]=
  some ⟨.tup [.agg [.int .i64 0,.nils,.nils,.nils],.c (.bool false)],[],(decide (v.length≤274877906944)&&(!!elsOk v 4&&(!!elsOk v 4&&(!!elsOk v 4&&((bif !elsOk v 4 then true else !bet k 1 2)&&((bif !elsOk v 4 then true else !bet k 1 2)&&((bif !elsOk v 4 then true else !bet k 1 2)&&((bif !elsOk v 4 then true else !bet k 1 2)&&true)))))))),[]⟩:=by kernel_rfl
theorem xSN_3 (k:Int) (v:List Int) (x:Int):evalF tt (ctOf T85) ([]) 100 Tryz.f22 [.c (.int .i64 k),.c (.view none (.ints .i64 v) v.length 1 none),.c (.int .i64 x)] [] [(0,false),(0,false),(0,true)]=
  some ⟨.tup [.agg [.int .i64 0,.nils,.nils,.nils],.c (.bool false)],[],(decide (v.length≤274877906944)&&(!!elsOk v 4&&(!!elsOk v 4&&(!!elsOk v 4&&((!bif !elsOk v 4 then true else !bet k 1 2)&&((!bif !elsOk v 4 then true else !bet k 1 2)&&((!bif !elsOk v 4 then true else !bet k 1 2)&&((bif bif !elsOk v 4 then true else !bet k 1 2 then true else !bet x 1 99)&&true)))))))),[]⟩:=by kernel_rfl
theorem xSN_4 (k:Int) (v:List Int) (x:Int):evalF tt (ctOf T85) ([]) 100 Tryz.f22 [.c (.int .i64 k),.c (.view none (.ints .i64 v) v.length 1 none),.c (.int .i64 x)] [] [(0,false),(0,false),(0,false)]=
  some ⟨.tup [.agg [.int .i64 k,.sl 0 0 8 1 none,.sl 1 0 8 1 none,.sl 2 0 8 1 none],.c (.bool true)],[.live (.ints .i64 (encL k [ifI (elsOk v 4) (v.getD 0 0),ifI (elsOk v 4) (v.getD 1 0),ifI (elsOk v 4) (v.getD 2 0),ifI (elsOk v 4) (v.getD 3 0)])),.live (.ints .i64 [x,x,x,x,x,x,x,x]),.live (.bools [true,true,true,true,true,true,true,true])],(decide (v.length≤274877906944)&&(!!elsOk v 4&&(!!elsOk v 4&&(!!elsOk v 4&&((!bif !elsOk v 4 then true else !bet k 1 2)&&((!bif !elsOk v 4 then true else !bet k 1 2)&&((!bif !elsOk v 4 then true else !bet k 1 2)&&((!bif bif !elsOk v 4 then true else !bet k 1 2 then true else !bet x 1 99)&&(bet k 1 2&&(fok (ifI (elsOk v 4) (v.getD 0 0))&&(fok (ifI (elsOk v 4) (v.getD 1 0))&&(fok (ifI (elsOk v 4) (v.getD 2 0))&&((fok (ifI (elsOk v 4) (v.getD 3 0)))&&true))))))))))))),[]⟩:=by kernel_rfl
theorem mSN:ModelN Tryz.prog 22 FFsnew:=by
 intro args h res h' o hnorm he ho
 unfold FFsnew at he
 split at he
 case h_2=>cases he
 rename_i k nl v n cap x
 simp only[Option.some.injEq,Prod.mk.injEq]at he
 obtain⟨rfl,rfl,rfl⟩:=he
 simp only[List.mem_cons,List.not_mem_nil,or_false,forall_eq_or_imp,forall_eq,decide_eq_true_eq]at ho
 simp only[normA,AV.norm,normL,Cell.norm,Con.size,List.cons.injEq,AV.c.injEq,AV.agg.injEq,Cell.view.injEq,nlen_one,true_and,and_true]at hnorm
 obtain⟨rfl,rfl,rfl⟩:=hnorm
 unfold snK snB
 cases h2:elsOk v 4 with
 |false=>
  rw[Bool.false_and,Bool.and_false]
  exact zeroTs (meets_of t85 (by kernel_rfl) (by kernel_rfl) (xSN_1 k v x) (by simp only[h2,ho,bS]) (by simp) (fun cc _=>LcOk.nil))
 |true=>
  cases h1:bet k 1 2 with
  |false=>exact zeroTs (meets_of t85 (by kernel_rfl) (by kernel_rfl) (xSN_2 k v x) (by simp only[h1,h2,ho,bS]) (by simp) (fun cc _=>LcOk.nil))
  |true=>
   cases h3:bet x 1 99 with
   |false=>exact zeroTs (meets_of t85 (by kernel_rfl) (by kernel_rfl) (xSN_3 k v x) (by simp only[h1,h2,h3,ho,bS]) (by simp) (fun cc _=>LcOk.nil))
   |true=>
    have e:=xSN_4 k v x
    have ee:encL k [ifI (elsOk v 4) (v.getD 0 0),ifI (elsOk v 4) (v.getD 1 0),ifI (elsOk v 4) (v.getD 2 0),ifI (elsOk v 4) (v.getD 3 0)]=encL k v:=encI_eq h2
    rw[ee]at e
    exact meets_of t85 (by kernel_rfl) (by kernel_rfl) e (by simp only[h1,h2,h3,ho,ifI,allFok_get (els_iff h2).1,bS];try simp[rep8]) (by simp) (fun cc _=>LcOk.nil)
theorem xTA_1 (x:PK) (i:Int):evalF tt (ctOf T85) ([]) 100 Tryz.f29 [.agg x.vcells,.c (.int .i64 i)] [] [(0,true)]=
  some ⟨.tup [.agg [.int .i64 (tbK x i).k,.sl 0 0 (tbK x i).a.length 1 none,.sl 1 0 (tbK x i).b.length 1 none,.sl 2 0 (tbK x i).c.length 1 none,.bool (tbK x i).on,.int .i64 (tbK x i).kd,.sl 3 0 (tbK x i).d.length 1 none,.int .i64 (tbK x i).vs],.c (.bool false)],[.live (.ints .i64 (tbK x i).a),.live (.ints .i64 (tbK x i).b),.live (.bools (tbK x i).c),.live (.ints .i64 (tbK x i).d)],(decide (x.7.length≤274877906944)&&((!tbB x i)&&true)),[]⟩:=by kernel_rfl
theorem xTA_2 (x:PK) (i:Int):evalF tt (ctOf T85) ([]) 100 Tryz.f29 [.agg x.vcells,.c (.int .i64 i)] [] [(0,false)]=
  some ⟨.tup [.agg [.int .i64 (redoK (tbK x i)).k,.sl 0 0 (redoK (tbK x i)).a.length 1 none,.sl 1 0 (redoK (tbK x i)).b.length 1 none,.sl 2 0 (redoK (tbK x i)).c.length 1 none,.bool (redoK (tbK x i)).on,.int .i64 (redoK (tbK x i)).kd,.sl 3 0 (redoK (tbK x i)).d.length 1 none,.int .i64 (redoK (tbK x i)).vs],.c (.bool true)],[.live (.ints .i64 (redoK (tbK x i)).a),.live (.ints .i64 (redoK (tbK x i)).b),.live (.bools (redoK (tbK x i)).c),.live (.ints .i64 (redoK (tbK x i)).d)],(decide (x.7.length≤274877906944)&&(!!tbB x i&&(decide ((tbK x i).a.length=(tbK x i).a.length)&&(decide ((tbK x i).b.length=(tbK x i).b.length)&&(decide ((tbK x i).c.length=(tbK x i).c.length)&&(decide ((tbK x i).d.length=(tbK x i).d.length)&&((decide ((tbK x i).d.length≤274877906944))&&true))))))),[]⟩:=by kernel_rfl
def FFTA:Model:=fun args h=>
 match args,h with
 |[.agg [.int .i64 k,.view _ (.ints .i64 a) n1 1 _,.view _ (.ints .i64 b) n2 1 _,.view _ (.bools c) n3 1 _,.bool on,.int .i64 kd,.view _ (.ints .i64 d) n4 1 _,.int .i64 vs],.c (.int .i64 x)],[]=>
  some (.tup [.agg (taK ⟨k,a,b,c,on,kd,d,vs⟩ x).cells,.c (.bool (tbB ⟨k,a,b,c,on,kd,d,vs⟩ x))],[.live (.ints .i64 (taK ⟨k,a,b,c,on,kd,d,vs⟩ x).a),.live (.ints .i64 (taK ⟨k,a,b,c,on,kd,d,vs⟩ x).b),.live (.bools (taK ⟨k,a,b,c,on,kd,d,vs⟩ x).c),.live (.ints .i64 (taK ⟨k,a,b,c,on,kd,d,vs⟩ x).d)],[decide (d.length≤274877906944)])
 |_,_=>none
theorem mTA:ModelN Tryz.prog 29 FFTA:=by
 intro args h res h' o hnorm he ho
 unfold FFTA at he
 split at he
 case h_2=>cases he
 rename_i k nl1 a n1 cap1 nl2 b n2 cap2 nl3 c n3 cap3 on kd nl4 d n4 cap4 vs x
 simp only[Option.some.injEq,Prod.mk.injEq]at he
 obtain⟨rfl,rfl,rfl⟩:=he
 simp only[List.mem_cons,List.not_mem_nil,or_false,forall_eq_or_imp,forall_eq,decide_eq_true_eq]at ho
 have o1:=ho
 simp only[normA,AV.norm,normL,Cell.norm,Con.size,List.cons.injEq,AV.c.injEq,AV.agg.injEq,Cell.view.injEq,nlen_one,true_and,and_true]at hnorm
 obtain⟨⟨rfl,rfl,rfl⟩,⟨rfl,rfl,rfl⟩,⟨rfl,rfl,rfl⟩,rfl,rfl,rfl⟩:=hnorm
 obtain⟨g1,g2,g3,g4⟩:=tb_szs2 ⟨k,a,b,c,on,kd,d,vs⟩ x
 have q4:decide ((tbK ⟨k,a,b,c,on,kd,d,vs⟩ x).d.length≤274877906944)=true:=decide_eq_true (by omega)
 have q1:decide ((tbK ⟨k,a,b,c,on,kd,d,vs⟩ x).a.length≤274877906944)=true:=decide_eq_true (by omega)
 unfold taK
 cases h1:tbB ⟨k,a,b,c,on,kd,d,vs⟩ x with
 |false=>exact meets_of t85 (by kernel_rfl) (by kernel_rfl) (xTA_1 ⟨k,a,b,c,on,kd,d,vs⟩ x) (by simp only[h1,o1,q1,q4,decide_true,bS]) (by simp) (fun cc _=>LcOk.nil)
 |true=>exact meets_of t85 (by kernel_rfl) (by kernel_rfl) (xTA_2 ⟨k,a,b,c,on,kd,d,vs⟩ x) (by simp only[h1,o1,q1,q4,decide_true,bS]) (by simp) (fun cc _=>LcOk.nil)
theorem xTS_1 (x:PK) (i:Int):evalF tt (ctOf T85) ([]) 100 Tryz.f27 [.agg x.vcells,.c (.int .i64 i)] [] [(0,true)]=
  some ⟨.tup [.agg [.int .i64 (tbK x i).k,.sl 0 0 (tbK x i).a.length 1 none,.sl 1 0 (tbK x i).b.length 1 none,.sl 2 0 (tbK x i).c.length 1 none,.bool (tbK x i).on,.int .i64 (tbK x i).kd,.sl 3 0 (tbK x i).d.length 1 none,.int .i64 (tbK x i).vs],.c (.bool false)],[.live (.ints .i64 (tbK x i).a),.live (.ints .i64 (tbK x i).b),.live (.bools (tbK x i).c),.live (.ints .i64 (tbK x i).d)],(decide (x.2.length≤274877906944)&&(decide (x.7.length≤274877906944)&&((!tbB x i)&&true))),[]⟩:=by kernel_rfl
theorem xTS_2 (x:PK) (i:Int):evalF tt (ctOf T85) ([]) 100 Tryz.f27 [.agg x.vcells,.c (.int .i64 i)] [] [(0,false)]=
  some ⟨.tup [.agg [.int .i64 (redoK (tbK x i)).k,.sl 0 0 (redoK (tbK x i)).a.length 1 none,.sl 1 0 (redoK (tbK x i)).b.length 1 none,.sl 2 0 (redoK (tbK x i)).c.length 1 none,.bool (redoK (tbK x i)).on,.int .i64 (redoK (tbK x i)).kd,.sl 3 0 (redoK (tbK x i)).d.length 1 none,.int .i64 (redoK (tbK x i)).vs],.c (.bool true)],[.live (.ints .i64 (redoK (tbK x i)).a),.live (.ints .i64 (redoK (tbK x i)).b),.live (.bools (redoK (tbK x i)).c),.live (.ints .i64 (redoK (tbK x i)).d)],(decide (x.2.length≤274877906944)&&(decide (x.7.length≤274877906944)&&(!!tbB x i&&(decide ((tbK x i).a.length=(tbK x i).a.length)&&(decide ((tbK x i).b.length=(tbK x i).b.length)&&(decide ((tbK x i).c.length=(tbK x i).c.length)&&(decide ((tbK x i).d.length=(tbK x i).d.length)&&(decide ((tbK x i).a.length≤274877906944)&&((decide ((tbK x i).d.length≤274877906944))&&true))))))))),[]⟩:=by kernel_rfl
def FFTS:Model:=fun args h=>
 match args,h with
 |[.agg [.int .i64 k,.view _ (.ints .i64 a) n1 1 _,.view _ (.ints .i64 b) n2 1 _,.view _ (.bools c) n3 1 _,.bool on,.int .i64 kd,.view _ (.ints .i64 d) n4 1 _,.int .i64 vs],.c (.int .i64 x)],[]=>
  some (.tup [.agg (taK ⟨k,a,b,c,on,kd,d,vs⟩ x).cells,.c (.bool (tbB ⟨k,a,b,c,on,kd,d,vs⟩ x))],[.live (.ints .i64 (taK ⟨k,a,b,c,on,kd,d,vs⟩ x).a),.live (.ints .i64 (taK ⟨k,a,b,c,on,kd,d,vs⟩ x).b),.live (.bools (taK ⟨k,a,b,c,on,kd,d,vs⟩ x).c),.live (.ints .i64 (taK ⟨k,a,b,c,on,kd,d,vs⟩ x).d)],[decide (a.length≤274877906944),decide (d.length≤274877906944)])
 |_,_=>none
theorem mTS:ModelN Tryz.prog 27 FFTS:=by
 intro args h res h' o hnorm he ho
 unfold FFTS at he
 split at he
 case h_2=>cases he
 rename_i k nl1 a n1 cap1 nl2 b n2 cap2 nl3 c n3 cap3 on kd nl4 d n4 cap4 vs x
 simp only[Option.some.injEq,Prod.mk.injEq]at he
 obtain⟨rfl,rfl,rfl⟩:=he
 simp only[List.mem_cons,List.not_mem_nil,or_false,forall_eq_or_imp,forall_eq,decide_eq_true_eq]at ho
 obtain⟨o1,o2⟩:=ho
 simp only[normA,AV.norm,normL,Cell.norm,Con.size,List.cons.injEq,AV.c.injEq,AV.agg.injEq,Cell.view.injEq,nlen_one,true_and,and_true]at hnorm
 obtain⟨⟨rfl,rfl,rfl⟩,⟨rfl,rfl,rfl⟩,⟨rfl,rfl,rfl⟩,rfl,rfl,rfl⟩:=hnorm
 obtain⟨g1,g2,g3,g4⟩:=tb_szs2 ⟨k,a,b,c,on,kd,d,vs⟩ x
 have q4:decide ((tbK ⟨k,a,b,c,on,kd,d,vs⟩ x).d.length≤274877906944)=true:=decide_eq_true (by omega)
 have q1:decide ((tbK ⟨k,a,b,c,on,kd,d,vs⟩ x).a.length≤274877906944)=true:=decide_eq_true (by omega)
 unfold taK
 cases h1:tbB ⟨k,a,b,c,on,kd,d,vs⟩ x with
 |false=>exact meets_of t85 (by kernel_rfl) (by kernel_rfl) (xTS_1 ⟨k,a,b,c,on,kd,d,vs⟩ x) (by simp only[h1,o1,o2,q1,q4,decide_true,bS]) (by simp) (fun cc _=>LcOk.nil)
 |true=>exact meets_of t85 (by kernel_rfl) (by kernel_rfl) (xTS_2 ⟨k,a,b,c,on,kd,d,vs⟩ x) (by simp only[h1,o1,o2,q1,q4,decide_true,bS]) (by simp) (fun cc _=>LcOk.nil)
theorem xDT_1 (b:List Int):evalF tt (ctOf T74) ([]) 100 Tryz.f41 [.c (.view none (.ints .u8 b) b.length 1 none)] [] []=
  some ⟨.tup [.agg [.int .i64 (dkQ b).1.1,.view none (.ints .i64 (dkQ b).1.2) (dkQ b).1.2.length 1 none,.view none (.ints .i64 (dkQ b).1.3) (dkQ b).1.3.length 1 none,.view none (.bools (dkQ b).1.4) (dkQ b).1.4.length 1 none,.bool (dkQ b).1.5,.int .i64 (dkQ b).1.6,.view none (.ints .i64 (dkQ b).1.7) (dkQ b).1.7.length 1 none,.int .i64 (dkQ b).1.8],.c (.int .i64 (dkK b))],[],((byteB b)&&true),[]⟩:=by kernel_rfl
theorem mDT:ModelN Tryz.prog 41 FFdkT:=by
 intro args h res h' o hnorm he ho
 unfold FFdkT at he
 split at he
 case h_2=>cases he
 rename_i nl b n cap
 simp only[Option.some.injEq,Prod.mk.injEq]at he
 obtain⟨rfl,rfl,rfl⟩:=he
 simp only[List.mem_cons,List.not_mem_nil,or_false,forall_eq_or_imp,forall_eq,decide_eq_true_eq]at ho
 have o1:=ho
 simp only[normA,AV.norm,normL,Cell.norm,Con.size,List.cons.injEq,AV.c.injEq,AV.agg.injEq,Cell.view.injEq,nlen_one,true_and,and_true]at hnorm
 obtain⟨rfl,rfl,rfl⟩:=hnorm
 exact meets_of t74 (by kernel_rfl) (by kernel_rfl) (xDT_1 b) (by simp[o1]) (by simp) (fun cc _=>LcOk.nil)
theorem xDL_1 (b:List Int):evalF tt (ctOf T72) ([]) 100 Tryz.f10 [.c (.view none (.ints .u8 b) b.length 1 none)] [] []=
  some ⟨.tup [.agg [.int .i64 (kdr (List.take 2000 b) 0).1.1,.view none (.ints .i64 (kdr (List.take 2000 b) 0).1.2) (kdr (List.take 2000 b) 0).1.2.length 1 none,.view none (.ints .i64 (kdr (List.take 2000 b) 0).1.3) (kdr (List.take 2000 b) 0).1.3.length 1 none,.view none (.bools (kdr (List.take 2000 b) 0).1.4) (kdr (List.take 2000 b) 0).1.4.length 1 none,.bool (kdr (List.take 2000 b) 0).1.5,.int .i64 (kdr (List.take 2000 b) 0).1.6,.view none (.ints .i64 (kdr (List.take 2000 b) 0).1.7) (kdr (List.take 2000 b) 0).1.7.length 1 none,.int .i64 (kdr (List.take 2000 b) 0).1.8],.c (.int .i64 (IntKind.i64.wrap (pk (List.take 2000 b) (kdr (List.take 2000 b) 0).snd 8+IntKind.i64.wrap (IntKind.i64.wrap ((pk (List.take 2000 b) ((kdr (List.take 2000 b) 0).snd+1) 24).tdiv 23)*8))))],[],(decide ((List.take 2000 b).length=(List.take 2000 b).length)&&(byteB (List.take 2000 b)&&(decide ((List.take 2000 b).length=(List.take 2000 b).length)&&(byteB (List.take 2000 b)&&(decide (0≤(kdr (List.take 2000 b) 0).snd)&&(decide ((kdr (List.take 2000 b) 0).snd≤1000000)&&(decide ((List.take 2000 b).length=(List.take 2000 b).length)&&(byteB (List.take 2000 b)&&(decide (0≤(kdr (List.take 2000 b) 0).snd+1)&&((decide ((kdr (List.take 2000 b) 0).snd+1≤1000000))&&true)))))))))),[]⟩:=by kernel_rfl
theorem mDL:ModelN Tryz.prog 10 FFdkS:=by
 intro args h res h' o hnorm he ho
 unfold FFdkS at he
 split at he
 case h_2=>cases he
 rename_i nl b n cap
 simp only[Option.some.injEq,Prod.mk.injEq]at he
 obtain⟨rfl,rfl,rfl⟩:=he
 simp only[List.mem_cons,List.not_mem_nil,or_false,forall_eq_or_imp,forall_eq,decide_eq_true_eq]at ho
 have o1:=ho
 simp only[normA,AV.norm,normL,Cell.norm,Con.size,List.cons.injEq,AV.c.injEq,AV.agg.injEq,Cell.view.injEq,nlen_one,true_and,and_true]at hnorm
 obtain⟨rfl,rfl,rfl⟩:=hnorm
 obtain⟨-,s2,s3⟩:=kdr_sz (b.take 2000) (p:=0) (by omega)
 have h8:=pk_bet (b.take 2000) (kdr (b.take 2000) 0).2 (x:=8) (by omega)
 have h24:=pk_bet (b.take 2000) ((kdr (b.take 2000) 0).2+1) (x:=24) (by omega)
 have e:=xDL_1 b
 rw[tdiv_eq h24.1,wrap_small (i:=pk (b.take 2000) ((kdr (b.take 2000) 0).2+1) 24/23) (by omega) (by omega),wrap_small (i:=pk (b.take 2000) ((kdr (b.take 2000) 0).2+1) 24/23*8) (by omega) (by omega),wrap_small (by omega) (by omega)]at e
 exact meets_of t72 (by kernel_rfl) (by kernel_rfl) e (by simp only[byteB_take o1,bS];omega) (by simp) (fun cc _=>LcOk.nil)
theorem xDM_1 (b:List Int):evalF tt (ctOf T72) ([]) 100 Tryz.f44 [.c (.view none (.ints .u8 b) b.length 1 none)] [] []=
  some ⟨.tup [.agg [.int .i64 (kdr (List.take 2000 b) 0).1.1,.view none (.ints .i64 (kdr (List.take 2000 b) 0).1.2) (kdr (List.take 2000 b) 0).1.2.length 1 none,.view none (.ints .i64 (kdr (List.take 2000 b) 0).1.3) (kdr (List.take 2000 b) 0).1.3.length 1 none,.view none (.bools (kdr (List.take 2000 b) 0).1.4) (kdr (List.take 2000 b) 0).1.4.length 1 none,.bool (kdr (List.take 2000 b) 0).1.5,.int .i64 (kdr (List.take 2000 b) 0).1.6,.view none (.ints .i64 (kdr (List.take 2000 b) 0).1.7) (kdr (List.take 2000 b) 0).1.7.length 1 none,.int .i64 (kdr (List.take 2000 b) 0).1.8],.c (.int .i64 (IntKind.i64.wrap (pk (List.take 2000 b) (kdr (List.take 2000 b) 0).snd 8+IntKind.i64.wrap (IntKind.i64.wrap ((pk (List.take 2000 b) ((kdr (List.take 2000 b) 0).snd+1) 24).tdiv 23)*8))))],[],(decide ((List.take 2000 b).length=(List.take 2000 b).length)&&(byteB (List.take 2000 b)&&(decide ((List.take 2000 b).length=(List.take 2000 b).length)&&(byteB (List.take 2000 b)&&(decide (0≤(kdr (List.take 2000 b) 0).snd)&&(decide ((kdr (List.take 2000 b) 0).snd≤1000000)&&(decide ((List.take 2000 b).length=(List.take 2000 b).length)&&(byteB (List.take 2000 b)&&(decide (0≤(kdr (List.take 2000 b) 0).snd+1)&&((decide ((kdr (List.take 2000 b) 0).snd+1≤1000000))&&true)))))))))),[]⟩:=by kernel_rfl
theorem mDM:ModelN Tryz.prog 44 FFdkS:=by
 intro args h res h' o hnorm he ho
 unfold FFdkS at he
 split at he
 case h_2=>cases he
 rename_i nl b n cap
 simp only[Option.some.injEq,Prod.mk.injEq]at he
 obtain⟨rfl,rfl,rfl⟩:=he
 simp only[List.mem_cons,List.not_mem_nil,or_false,forall_eq_or_imp,forall_eq,decide_eq_true_eq]at ho
 have o1:=ho
 simp only[normA,AV.norm,normL,Cell.norm,Con.size,List.cons.injEq,AV.c.injEq,AV.agg.injEq,Cell.view.injEq,nlen_one,true_and,and_true]at hnorm
 obtain⟨rfl,rfl,rfl⟩:=hnorm
 obtain⟨-,s2,s3⟩:=kdr_sz (b.take 2000) (p:=0) (by omega)
 have h8:=pk_bet (b.take 2000) (kdr (b.take 2000) 0).2 (x:=8) (by omega)
 have h24:=pk_bet (b.take 2000) ((kdr (b.take 2000) 0).2+1) (x:=24) (by omega)
 have e:=xDM_1 b
 rw[tdiv_eq h24.1,wrap_small (i:=pk (b.take 2000) ((kdr (b.take 2000) 0).2+1) 24/23) (by omega) (by omega),wrap_small (i:=pk (b.take 2000) ((kdr (b.take 2000) 0).2+1) 24/23*8) (by omega) (by omega),wrap_small (by omega) (by omega)]at e
 exact meets_of t72 (by kernel_rfl) (by kernel_rfl) e (by simp only[byteB_take o1,bS];omega) (by simp) (fun cc _=>LcOk.nil)
noncomputable def T86:List Entry:=[⟨22,[],nm FFsnew⟩,⟨29,[],nm FFTA⟩,⟨27,[],nm FFTS⟩,⟨41,[],nm FFdkT⟩,⟨10,[],nm FFdkS⟩,⟨44,[],nm FFdkS⟩]++T85
theorem e86:EntriesOk Tryz.prog T86:=by
 refine EntriesOk.append ?_ e85
 intro e he
 simp only[List.mem_cons,List.not_mem_nil,or_false]at he
 rcases he with rfl|rfl|rfl|rfl|rfl|rfl
 ·exact mSN.ok
 ·exact mTA.ok
 ·exact mTS.ok
 ·exact mDT.ok
 ·exact mDL.ok
 ·exact mDM.ok
end Go.Proofs.YthapjdpkelihiaaGreat.Am
end
section
namespace Go.Proofs.YthapjdpkelihiaaGreat.Am
theorem shardB_on {y:PK} {i:Int} (h:y.ok=true) (ho:y.on=true) (hi:bet i 0 7=true):shardB y i=true:=by
 unfold shardB;rw[h,hi,ho];rfl
end Go.Proofs.YthapjdpkelihiaaGreat.Am
end
section
namespace Go.Proofs.YthapjdpkelihiaaGreat.Am
open Go.RowKit
def IsRow (k:IntKind) (w:World) (a:Option Addr) (len cap:Nat) (zs:List Int):Prop:=
 (a=none∧len=0∧cap=0∧zs=[])∨
 ∃x,a=some x∧len≤cap∧cap≤maxLen∧zs.length=cap∧(∀i,i<zs.length→w.cell? (x.add i)=some (.int k (zs.getD i 0)))∧ ∀n∈zs,(Lit.int k n).wf=true
theorem mem0 (W:World):Mem (fun _=>False) W (liveB noIds) [] noIds W:=
 ⟨fun id=>by
  have:Heap.get ([]:List Slot) id=.unborn:=by simp[Heap.get]
  rw[this];exact trivial,fun i j b h _=>(by cases h),fun id b h=>(by cases h),rfl,rfl,rfl,Nat.le_refl _,fun _ _ _=>rfl,fun b h=>h.elim⟩
theorem wf_u8 {n:Int} (h:(Lit.int .u8 n).wf=true):bet n 0 255=true:=by
 simp only[Lit.wf,Bool.and_eq_true,decide_eq_true_eq]at h
 rw[bet_iff]
 have h1:=h.1
 have h2:=h.2
 simp[IntKind.min,IntKind.max,IntKind.bits,IntKind.signed]at h1 h2
 omega
theorem row_view {k:IntKind} {W:World} {a:Option Addr} {len cap:Nat} {zs:List Int} (h:IsRow k W a len cap zs):CR0 W (fun b=>liveB noIds b∨False) noIds (.view none (.ints k (zs.take len)) (zs.take len).length 1 none) (.slice a len cap):=by
 rcases h with⟨rfl,rfl,rfl,rfl⟩|⟨x,rfl,hl,hm,hz,hcell,hwz⟩
 ·exact .viewNone none _ 1 none none 0 rfl (fun _ h=>by cases h) (fun _ h=>by cases h) (fun _=>rfl)
 ·have hlen:(zs.take len).length=len:=by rw[List.length_take];omega
  by_cases h0:len=0
  ·subst h0
   have e:zs.take 0=[]:=by simp
   rw[e]
   exact .viewNone none _ 1 none (some x) cap rfl (fun _ h=>by cases h) (fun _ h=>by cases h) (fun h=>by cases h)
  ·obtain⟨b,off,spot⟩:=x
   have hc:=hcell 0 (by omega)
   have hspot:spot=none:=by simpa [Addr.add]using World.cell?_spot hc
   subst hspot
   have hg: ∀q,q<len→(zs.take len).getD q 0=zs.getD q 0:=fun q hq=>by
    rw[List.getD_eq_getElem?_getD,List.getD_eq_getElem?_getD,List.getElem?_take,if_pos hq]
   rw[hlen]
   refine .view none _ len 1 none b off cap (fun q=> .int k (zs.getD q 0)) (fun _ h=> ?_) (fun q hq=> ?_) (fun q hq=> ?_) (by rw[Nat.mul_one];exact hlen.symm) hl (fun _ h=>by cases h) (fun _ h=>by cases h)
   ·rcases h with⟨id,h⟩|h
    ·cases h
    ·exact h
   ·have hq':q<len:=by rw[←hlen];exact hq
    have:=hcell q (by omega)
    have ea:(⟨b,off,none⟩:Addr).add q=⟨b,off+q,none⟩:=by
     unfold Addr.add
     split
     ·rename_i h0;subst h0;rfl
     ·rfl
    rw[ea]at this
    exact this
   ·have hq':q<len:=by rw[←hlen];exact hq
    have e:(Con.ints k (zs.take len)).cell q=.int k (zs.getD q 0):=by
     show Cell.int k _=_
     rw[hg q hq']
    rw[e]
    exact .int k _
theorem row_bytes {W:World} {a:Option Addr} {len cap:Nat} {zs:List Int} (h:IsRow .u8 W a len cap zs):byteB (zs.take len)=true:=by
 unfold byteB
 rw[List.all_eq_true]
 intro x hx
 rcases h with⟨rfl,rfl,rfl,rfl⟩|⟨y,rfl,hl,hm,hz,hcell,hwz⟩
 ·simp at hx
 ·exact wf_u8 (hwz x (List.mem_of_mem_take hx))
theorem calls_bytes {f:FuncId} (hm: ∀b,byteB b=true→Meets Tryz.prog f [.c (.view none (.ints .u8 b) b.length 1 none)] [] (.c (.bool true)) []) {W:World} {a:Option Addr} {len cap:Nat} {zs:List Int} (w0:IsRow .u8 W a len cap zs):
  Calls Tryz.prog f #[.slice a len cap] W fun e w'=>e=.returned (.bool true)∧Below W.heap.size W w':=by
 refine Calls.mono ((hm (zs.take len) (row_bytes w0)).2 (mem0 W) [.slice a len cap] rfl fun q hq=> ?_) ?_
 ·match q,hq with
  |0,_=>exact .c _ _ (row_view w0)
 ·rintro e w' ⟨v,ρ',rfl,mb,im,m',hr⟩
  refine⟨?_,m'.os,m'.tape,m'.output,m'.size,fun k hk=>m'.keep k hk fun⟨id,h⟩=>by cases h⟩
  cases hr with
  |c x v hx=>cases hx;rfl
theorem calls_bytes2 {f:FuncId} (hm: ∀b c,byteB b=true→byteB c=true→Meets Tryz.prog f [.c (.view none (.ints .u8 b) b.length 1 none),.c (.view none (.ints .u8 c) c.length 1 none)] [] (.c (.bool true)) []) {W:World} {a a':Option Addr} {len cap len' cap':Nat} {zs zs':List Int} (w0:IsRow .u8 W a len cap zs) (w1:IsRow .u8 W a' len' cap' zs'):
  Calls Tryz.prog f #[.slice a len cap,.slice a' len' cap'] W fun e w'=>e=.returned (.bool true)∧Below W.heap.size W w':=by
 refine Calls.mono ((hm (zs.take len) (zs'.take len') (row_bytes w0) (row_bytes w1)).2 (mem0 W) [.slice a len cap,.slice a' len' cap'] rfl fun q hq=> ?_) ?_
 ·match q,hq with
  |0,_=>exact .c _ _ (row_view w0)
  |1,_=>exact .c _ _ (row_view w1)
 ·rintro e w' ⟨v,ρ',rfl,mb,im,m',hr⟩
  refine⟨?_,m'.os,m'.tape,m'.output,m'.size,fun k hk=>m'.keep k hk fun⟨id,h⟩=>by cases h⟩
  cases hr with
  |c x v hx=>cases hx;rfl
theorem own:ownKnob Tryz.prog.godebug=none:=by kernel_rfl
theorem laidOut:laidOutB Tryz.prog=true:=by kernel_rfl
end Go.Proofs.YthapjdpkelihiaaGreat.Am
end
