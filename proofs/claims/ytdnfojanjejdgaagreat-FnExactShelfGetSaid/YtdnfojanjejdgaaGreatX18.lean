/- DERIVED. Part 18 of the proof: C118, C119, C120, C121. No statement of the program is proved here. -/
import Derived.Test.YtdnfojanjejdgaaGreatX17
set_option linter.unusedSimpArgs false
set_option linter.unusedVariables false
set_option linter.unusedSectionVars false
set_option linter.defProp false
namespace Go.Proofs.YtdnfojanjejdgaaGreat.Am
section
noncomputable def H1:List aZ:=[⟨60,[],nm SG⟩,⟨57,[],nm SJ⟩,⟨61,[],SY⟩,⟨55,[],SI⟩,⟨63,[],nm T1⟩,⟨65,[],nm T4⟩]++iI
theorem a03:aA Tryz.prog H1:=by
 refine aA.append ?_ a02
 intro e he
 simp only[List.mem_cons,List.not_mem_nil,or_false]at he
 rcases he with rfl|rfl|rfl|rfl|rfl|rfl
 ·exact mIT.ok
 ·exact mLT.ok
 ·exact mTI
 ·exact mLN
 ·exact mUS.ok
 ·exact mUT.ok
theorem X4:bL Tryz.prog (aH H1):=aQ a03
theorem a6J (x l h:Int):aJ tt (aH H1) ([]) 100 Tryz.f58 [.c (.int .i64 x),.c (.int .i64 l),.c (.int .i64 h)] [] [(0,true)]=
  some ⟨.c (.bool (bif decide (x≥l)then decide (x≤h)else false)),[],(rp2 (decide (x≥l)) ((decide (x≥l))&&true)),[]⟩:=by kernel_rfl
theorem a6K (x l h:Int):aJ tt (aH H1) ([]) 100 Tryz.f58 [.c (.int .i64 x),.c (.int .i64 l),.c (.int .i64 h)] [] [(0,false)]=
  some ⟨.c (.bool false),[],(rp3 (!decide (x≥l)) ((!decide (x≥l))&&true)),[]⟩:=by kernel_rfl
def SD:aO:=fun args h=>
 match args,h with
 |[.c (.int .i64 x),.c (.int .i64 l),.c (.int .i64 h)],[]=>
  some (.c (.bool (bet x l h)),[],[])
 |_,_=>none
theorem m6I:aR Tryz.prog 58 SD:=by
 intro args h res h' o he ho
 unfold SD at he
 split at he
 case h_2=>cases he
 rename_i x l h
 simp only[Option.some.injEq,Prod.mk.injEq]at he
 obtain⟨rfl,rfl,rfl⟩:=he
 unfold bet
 cases h1:decide (l≤x)with
 |false=>exact cU X4 (a6K x l h) (by kernel_rfl) (by kernel_rfl) rfl (by simp only[h1,decide_true,rpS,decide_false,beq_self_eq_true,bne_self_eq_false,Bool.not_true,Bool.not_false,Bool.not_not,cond_true,cond_false,Bool.true_and,Bool.and_true,Bool.false_and,Bool.and_false,Bool.or_true,Bool.true_or,Bool.or_false,Bool.false_or,Bool.and_eq_true,Bool.not_eq_true',decide_eq_true_eq,decide_eq_false_iff_not,true_and,and_true])
 |true=>
  have e:=a6J x l h
  have h1':decide (x≥l)=true:=h1
  rw[h1']at e
  exact cU X4 e (by kernel_rfl) (by kernel_rfl) rfl (by simp only[decide_true,rpS,decide_false,beq_self_eq_true,bne_self_eq_false,Bool.not_true,Bool.not_false,Bool.not_not,cond_true,cond_false,Bool.true_and,Bool.and_true,Bool.false_and,Bool.and_false,Bool.or_true,Bool.true_or,Bool.or_false,Bool.false_or,Bool.and_eq_true,Bool.not_eq_true',decide_eq_true_eq,decide_eq_false_iff_not,true_and,and_true])
noncomputable def i9:List aZ:=[⟨58,[],SD⟩,⟨62,[],dW tt (aH H1) Tryz.f62 []⟩]++H1
theorem a04:aA Tryz.prog i9:=by
 refine aA.append ?_ a03
 intro e he
 simp only[List.mem_cons,List.not_mem_nil,or_false]at he
 rcases he with rfl|rfl
 ·exact m6I
 ·exact cJ hT X4 bE [] (by kernel_rfl) (by kernel_rfl)
theorem kM:bL Tryz.prog (aH i9):=aQ a04
noncomputable abbrev fOI:=Tryz.f18
noncomputable def IOI (q:Int) (its:List Itm) (i:Int):St:=aS fOI.ntmps [(1,.c (.ptr 0 0 0 0)),(8,.c (.view none (.typ .itm its) its.length 2 none)),(9,.c (.int .i64 (its.length:Int))),(10,.c (.int .i64 i))] [.live (.cells [.int .i64 q,.view none (.typ .itm its) its.length 2 none])]
noncomputable def XOI (q:Int) (its:List Itm):St:=aS fOI.ntmps [(1,.c (.ptr 0 0 0 0))] [.live (.cells [.int .i64 q,.view none (.typ .itm its) its.length 2 none])]
noncomputable def YOI (q:Int) (its:List Itm):St:=aS fOI.ntmps [(1,.c (.ptr 0 0 0 0)),(2,.c (.bool false))] [.live (.cells [.int .i64 q,.view none (.typ .itm its) its.length 2 none])]
def pD (q:Int) (its:List Itm) (i:Int):=bt8 (its.getD i.toNat bM) (aM tt (aH i9) ([]) 0 100 (aC 0 (aB fOI)) (IOI q its i)) (↑its.length:Int) (aK 0 (aE fOI 0) (aG fOI 0)) (decide (i.toNat<its.length)&&true) (IntKind.i64.wrap (i-1)) (decide (i>0)) (IntKind.i64.wrap (i+1)) (P:=fun q0 q1 q2 q3 q4 q5 q6 q7=>q3 (q1 [(0,true),(0,true)])=
  some (.ret,(decide (i<q2)&&(decide (0≤i)&&(decide (i<q2)&&(q4&&(decide (q0.ks.length=q0.2.length)&&(sdK q0.2&&(rp4 (!itB q0.2) ((!itB q0.2)&&true)))))))),[],YOI q its)∧q3 (q1 [(0,true),(0,false),(0,true)])=
  some (.ret,(decide (i<q2)&&(decide (0≤i)&&(decide (i<q2)&&(q4&&(decide (q0.ks.length=q0.2.length)&&(sdK q0.2&&(rp4 (!!itB q0.2) (rp5 (bif !itB q0.2 then true else !cV q0.1) true)))))))),[],YOI q its)∧q3 (q1 [(0,true),(0,false),(0,false),(0,true),(0,true)])=
  some (.ret,(decide (i<q2)&&(decide (0≤i)&&(decide (i<q2)&&(q4&&(decide (q0.ks.length=q0.2.length)&&(sdK q0.2&&(rp4 (!!itB q0.2) (rp3 (!bif !itB q0.2 then true else !cV q0.1) (rp5 q6 (decide (0≤IntKind.i64.wrap (i-1))&&(decide (IntKind.i64.wrap (i-1)<q2)&&(rp2 q6 ((decide (q5.toNat<its.length)&&true)&&(rp3 q6 ((!bif !itB q0.2 then true else !cV q0.1)&&((bif bif !itB q0.2 then true else !cV q0.1 then true else bif decide (i>0)then !cX (its.getD q5.toNat bM).1 q0.1 else false)&&true)))))))))))))))),[],YOI q its)∧q3 (q1 [(0,true),(0,false),(0,false),(0,true),(0,false)])=
  some (.normal,(decide (i<q2)&&(decide (0≤i)&&(decide (i<q2)&&(q4&&(decide (q0.ks.length=q0.2.length)&&(sdK q0.2&&(rp4 (!!itB q0.2) (rp3 (!bif !itB q0.2 then true else !cV q0.1) (rp5 q6 (decide (0≤IntKind.i64.wrap (i-1))&&(decide (IntKind.i64.wrap (i-1)<q2)&&(rp2 q6 ((decide (q5.toNat<its.length)&&true)&&(rp3 q6 ((!bif !itB q0.2 then true else !cV q0.1)&&((!bif bif !itB q0.2 then true else !cV q0.1 then true else bif decide (i>0)then !cX (its.getD q5.toNat bM).1 q0.1 else false)&&true)))))))))))))))),[],IOI q its q7)∧q3 (q1 [(0,true),(0,false),(0,false),(0,false),(0,false)])=
  some (.normal,(decide (i<q2)&&(decide (0≤i)&&(decide (i<q2)&&(q4&&(decide (q0.ks.length=q0.2.length)&&(sdK q0.2&&(rp4 (!!itB q0.2) (rp3 (!bif !itB q0.2 then true else !cV q0.1) ((!decide (i>0))&&(rp9 (!decide (i>0)) ((!bif !itB q0.2 then true else !cV q0.1)&&(!decide (i>0)&&((!bif bif !itB q0.2 then true else !cV q0.1 then true else false)&&true))))))))))))),[],IOI q its q7)∧q3 (q1 [(0,false)])=
  some (.exit 0,((!decide (i<q2))&&true),[],XOI q its)) ⟨by kernel_rfl,by kernel_rfl,by kernel_rfl,by kernel_rfl,by kernel_rfl,by kernel_rfl⟩
def a3O (q:Int) (its:List Itm) (i:Int):=(pD q its i).1
def a3P (q:Int) (its:List Itm) (i:Int):=(pD q its i).2.1
def a3Q (q:Int) (its:List Itm) (i:Int):=(pD q its i).2.2.1
def a3R (q:Int) (its:List Itm) (i:Int):=(pD q its i).2.2.2.1
def a3S (q:Int) (its:List Itm) (i:Int):=(pD q its i).2.2.2.2.1
def a3T (q:Int) (its:List Itm) (i:Int):=(pD q its i).2.2.2.2.2
def NR (q:Int) (its:List Itm):=bt2 (aJ tt (aH i9) ([(0,⟨aE fOI 0,IOI q its 0,.normal,XOI q its⟩)]) 100 fOI [.agg [.int .i64 q,.view none (.typ .itm its) its.length 2 none]] []) (bet q 0 12) (P:=fun q0 q1=>q0 [(0,true)]=
  some ⟨.c (.bool (bif bet q 0 12 then decide (jP its≤q)else false)),[],(rp2 q1 (decide (its.length=its.length)&&(decide (its.length≤274877906944)&&(rp2 q1 (q1&&true))))),[IOI q its 0=IOI q its 0]⟩∧q0 [(0,false)]=
  some ⟨.c (.bool false),[],(rp5 (!bet q 0 12) ((!bet q 0 12)&&true)),[IOI q its 0=IOI q its 0]⟩) ⟨by kernel_rfl,by kernel_rfl⟩
def a77 (q:Int) (its:List Itm):=(NR q its).1
def a78 (q:Int) (its:List Itm):=(NR q its).2
theorem a87 (q:Int) (its:List Itm):aJ tt (aH i9) ([(0,⟨aE fOI 0,IOI q its 0,.ret,YOI q its⟩)]) 100 fOI [.agg [.int .i64 q,.view none (.typ .itm its) its.length 2 none]] [] []=
  some ⟨.c (.bool false),[],true,[IOI q its 0=IOI q its 0]⟩:=by kernel_rfl
noncomputable abbrev fOS:=Tryz.f16
noncomputable def IOS (q:Int) (its:List Itm) (n i:Int):St:=aS fOS.ntmps [(1,.c (.ptr 0 0 0 0)),(3,.c (.int .i64 n)),(4,.c (.int .i64 i))] [.live (.cells [.int .i64 q,.view none (.typ .itm its) its.length 2 none])]
noncomputable def XOS (q:Int) (its:List Itm) (n:Int):St:=aS fOS.ntmps [(1,.c (.ptr 0 0 0 0)),(3,.c (.int .i64 n))] [.live (.cells [.int .i64 q,.view none (.typ .itm its) its.length 2 none])]
noncomputable def YOS (q:Int) (its:List Itm) (n:Int):St:=aS fOS.ntmps [(1,.c (.ptr 0 0 0 0)),(2,.c (.bool false)),(3,.c (.int .i64 n))] [.live (.cells [.int .i64 q,.view none (.typ .itm its) its.length 2 none])]
noncomputable def JOS (q:Int) (its:List Itm) (n i:Int) (nm:ByteArray) (ks:List PK) (j:Int):St:=aS fOS.ntmps [(1,.c (.ptr 0 0 0 0)),(3,.c (.int .i64 n)),(4,.c (.int .i64 i)),(5,.c (.ptr 1 0 0 0)),(6,.c (.int .i64 j))] [.live (.cells [.int .i64 q,.view none (.typ .itm its) its.length 2 none]),.live (.cells [.str nm,.view none (.typ .pk ks) ks.length 8 none])]
noncomputable def ZOS (q:Int) (its:List Itm) (n i:Int) (nm:ByteArray) (ks:List PK):St:=aS fOS.ntmps [(1,.c (.ptr 0 0 0 0)),(3,.c (.int .i64 n)),(4,.c (.int .i64 i)),(5,.c (.ptr 1 0 0 0))] [.live (.cells [.int .i64 q,.view none (.typ .itm its) its.length 2 none]),.live (.cells [.str nm,.view none (.typ .pk ks) ks.length 8 none])]
noncomputable def WOS (q:Int) (its:List Itm) (n i:Int) (nm:ByteArray) (ks:List PK):St:=aS fOS.ntmps [(1,.c (.ptr 0 0 0 0)),(2,.c (.bool false)),(3,.c (.int .i64 n)),(4,.c (.int .i64 i)),(5,.c (.ptr 1 0 0 0))] [.live (.cells [.int .i64 q,.view none (.typ .itm its) its.length 2 none]),.live (.cells [.str nm,.view none (.typ .pk ks) ks.length 8 none])]
def yP (q:Int) (its:List Itm) (n i:Int) (nm:ByteArray) (ks:List PK) (j:Int):=bt5 (ks.getD j.toNat PK0) (aM tt (aH i9) ([]) 0 100 (aC 2 (aB fOS)) (JOS q its n i nm ks j)) (↑ks.length:Int) (decide (j.toNat<ks.length)&&true) (aK 0 (aE fOS 2) (aG fOS 2)) (P:=fun q0 q1 q2 q3 q4=>q4 (q1 [(0,true),(0,true)])=
  some (.ret,(decide (j<q2)&&(decide (0≤j)&&(decide (j<q2)&&(q3&&(decide (q0.2.length≤274877906944)&&(decide (q0.7.length≤274877906944)&&(rp6 (!bT q0.1 q0.2 q0.3 q0.4 q0.5 q0.6 q0.7 q0.8) ((!bT q0.1 q0.2 q0.3 q0.4 q0.5 q0.6 q0.7 q0.8)&&true)))))))),[],WOS q its n i nm ks)∧q4 (q1 [(0,true),(0,false),(0,true)])=
  some (.ret,(decide (j<q2)&&(decide (0≤j)&&(decide (j<q2)&&(q3&&(decide (q0.2.length≤274877906944)&&(decide (q0.7.length≤274877906944)&&(rp4 (!!bT q0.1 q0.2 q0.3 q0.4 q0.5 q0.6 q0.7 q0.8) (decide (0≤j)&&(decide (j<q2)&&(rp2 (!!bT q0.1 q0.2 q0.3 q0.4 q0.5 q0.6 q0.7 q0.8) (q3&&((bif !bT q0.1 q0.2 q0.3 q0.4 q0.5 q0.6 q0.7 q0.8 then true else q0.5)&&true)))))))))))),[],WOS q its n i nm ks)∧q4 (q1 [(0,true),(0,false),(0,false)])=
  some (.normal,(decide (j<q2)&&(decide (0≤j)&&(decide (j<q2)&&(q3&&(decide (q0.2.length≤274877906944)&&(decide (q0.7.length≤274877906944)&&(rp4 (!!bT q0.1 q0.2 q0.3 q0.4 q0.5 q0.6 q0.7 q0.8) (decide (0≤j)&&(decide (j<q2)&&(rp2 (!!bT q0.1 q0.2 q0.3 q0.4 q0.5 q0.6 q0.7 q0.8) (q3&&((!bif !bT q0.1 q0.2 q0.3 q0.4 q0.5 q0.6 q0.7 q0.8 then true else q0.5)&&true)))))))))))),[],JOS q its n i nm ks (IntKind.i64.wrap (j+1)))∧q4 (q1 [(0,false)])=
  some (.exit 2,((!decide (j<q2))&&true),[],ZOS q its n i nm ks)) ⟨by kernel_rfl,by kernel_rfl,by kernel_rfl,by kernel_rfl⟩
def a0K (q:Int) (its:List Itm) (n i:Int) (nm:ByteArray) (ks:List PK) (j:Int):=(yP q its n i nm ks j).1
def a0L (q:Int) (its:List Itm) (n i:Int) (nm:ByteArray) (ks:List PK) (j:Int):=(yP q its n i nm ks j).2.1
def a0M (q:Int) (its:List Itm) (n i:Int) (nm:ByteArray) (ks:List PK) (j:Int):=(yP q its n i nm ks j).2.2.1
def a0N (q:Int) (its:List Itm) (n i:Int) (nm:ByteArray) (ks:List PK) (j:Int):=(yP q its n i nm ks j).2.2.2
def pE (q:Int) (its:List Itm) (n i:Int):=a8K (its.getD i.toNat bM) (↑its.length:Int) (aK 0 (aE fOS 0) (aG fOS 0)) (decide (i.toNat<its.length)&&true) (decide ((IntKind.i64.wrap (i-1)).toNat<its.length)&&true) (decide (i>0)) (aC 0 (aB fOS)) (its.getD (IntKind.i64.wrap (i-1)).toNat bM) (IOS q its n i) (aH i9) (!decide (i>0)) (IntKind.i64.wrap (i+1)) (P:=fun q0 q1 q2 q3 q4 q5 q6 q7 q8 q9 q10 q11=>q2 ((aM tt q9 ([(2,⟨aE fOS 2,JOS q its n i q0.nm q0.ks 0,.normal,ZOS q its n i q0.nm q0.ks⟩)]) 0 100 q6 q8) [(0,true),(0,true)])=
  some (.ret,(decide (i<q1)&&(decide (0≤i)&&(decide (i<q1)&&(q3&&(rp4 (!cV q0.1) ((!cV q0.1)&&true)))))),[],YOS q its n)∧q2 ((aM tt q9 ([(2,⟨aE fOS 2,JOS q its n i q0.nm q0.ks 0,.normal,ZOS q its n i q0.nm q0.ks⟩)]) 0 100 q6 q8) [(0,true),(0,false),(0,true),(0,true)])=
  some (.ret,(decide (i<q1)&&(decide (0≤i)&&(decide (i<q1)&&(q3&&(rp3 (!!cV q0.1) (rp5 q5 (decide (0≤IntKind.i64.wrap (i-1))&&(decide (IntKind.i64.wrap (i-1)<q1)&&(rp2 q5 (q4&&(rp3 q5 (!!cV q0.1&&((bif !cV q0.1 then true else bif decide (i>0)then !cX q7.1 q0.1 else false)&&true))))))))))))),[],YOS q its n)∧q2 ((aM tt q9 ([(2,⟨aE fOS 2,JOS q its n i q0.nm q0.ks 0,.normal,ZOS q its n i q0.nm q0.ks⟩)]) 0 100 q6 q8) [(0,true),(0,false),(0,true),(0,false),(0,true)])=
  some (.ret,(decide (i<q1)&&(decide (0≤i)&&(decide (i<q1)&&(q3&&(rp3 (!!cV q0.1) (rp5 q5 (decide (0≤IntKind.i64.wrap (i-1))&&(decide (IntKind.i64.wrap (i-1)<q1)&&(rp2 q5 (q4&&(rp3 q5 (!!cV q0.1&&((!bif !cV q0.1 then true else bif decide (i>0)then !cX q7.1 q0.1 else false)&&(decide (q0.ks.length=q0.2.length)&&(sdK q0.2&&((q0.2.all okR)&&((!itB q0.2)&&true))))))))))))))))),[JOS q its n i q0.nm q0.ks 0=JOS q its n i q0.nm q0.ks 0],YOS q its n)∧q2 ((aM tt q9 ([(2,⟨aE fOS 2,JOS q its n i q0.nm q0.ks 0,.normal,ZOS q its n i q0.nm q0.ks⟩)]) 0 100 q6 q8) [(0,true),(0,false),(0,true),(0,false),(0,false)])=
  some (.normal,(decide (i<q1)&&(decide (0≤i)&&(decide (i<q1)&&(q3&&(rp3 (!!cV q0.1) (rp5 q5 (decide (0≤IntKind.i64.wrap (i-1))&&(decide (IntKind.i64.wrap (i-1)<q1)&&(rp2 q5 (q4&&(rp3 q5 (!!cV q0.1&&((!bif !cV q0.1 then true else bif decide (i>0)then !cX q7.1 q0.1 else false)&&(decide (q0.ks.length=q0.2.length)&&(sdK q0.2&&((q0.2.all okR)&&((!!itB q0.2)&&true))))))))))))))))),[JOS q its n i q0.nm q0.ks 0=JOS q its n i q0.nm q0.ks 0],IOS q its (IntKind.i64.wrap (n+(↑q0.ks.length:Int))) q11)∧q2 ((aM tt q9 ([(2,⟨aE fOS 2,JOS q its n i q0.nm q0.ks 0,.normal,ZOS q its n i q0.nm q0.ks⟩)]) 0 100 q6 q8) [(0,true),(0,false),(0,false),(0,false),(0,true)])=
  some (.ret,(decide (i<q1)&&(decide (0≤i)&&(decide (i<q1)&&(q3&&(rp3 (!!cV q0.1) (q10&&(rp9 q10 (!!cV q0.1&&(!decide (i>0)&&((!bif !cV q0.1 then true else false)&&(decide (q0.ks.length=q0.2.length)&&(sdK q0.2&&((q0.2.all okR)&&((!itB q0.2)&&true)))))))))))))),[JOS q its n i q0.nm q0.ks 0=JOS q its n i q0.nm q0.ks 0],YOS q its n)∧q2 ((aM tt q9 ([(2,⟨aE fOS 2,JOS q its n i q0.nm q0.ks 0,.normal,ZOS q its n i q0.nm q0.ks⟩)]) 0 100 q6 q8) [(0,true),(0,false),(0,false),(0,false),(0,false)])=
  some (.normal,(decide (i<q1)&&(decide (0≤i)&&(decide (i<q1)&&(q3&&(rp3 (!!cV q0.1) (q10&&(rp9 q10 (!!cV q0.1&&(!decide (i>0)&&((!bif !cV q0.1 then true else false)&&(decide (q0.ks.length=q0.2.length)&&(sdK q0.2&&((q0.2.all okR)&&((!!itB q0.2)&&true)))))))))))))),[JOS q its n i q0.nm q0.ks 0=JOS q its n i q0.nm q0.ks 0],IOS q its (IntKind.i64.wrap (n+(↑q0.ks.length:Int))) q11)) ⟨by kernel_rfl,by kernel_rfl,by kernel_rfl,by kernel_rfl,by kernel_rfl,by kernel_rfl⟩
def a3U (q:Int) (its:List Itm) (n i:Int):=(pE q its n i).1
def a3V (q:Int) (its:List Itm) (n i:Int):=(pE q its n i).2.1
def a3W (q:Int) (its:List Itm) (n i:Int):=(pE q its n i).2.2.1
def a3X (q:Int) (its:List Itm) (n i:Int):=(pE q its n i).2.2.2.1
def a3Y (q:Int) (its:List Itm) (n i:Int):=(pE q its n i).2.2.2.2.1
def a3Z (q:Int) (its:List Itm) (n i:Int):=(pE q its n i).2.2.2.2.2
theorem a40 (q:Int) (its:List Itm) (n i:Int) (lcv:List (Nat×LC)):aK 0 (aE fOS 0) (aG fOS 0) (aM tt (aH i9) (lcv) 0 100 (aC 0 (aB fOS)) (IOS q its n i) [(0,false)])=
  some (.exit 0,((!decide (i<(↑its.length:Int)))&&true),[],XOS q its n):=by kernel_rfl
def zM (q:Int) (its:List Itm) (n i:Int):=bt9 (its.getD i.toNat bM) (↑its.length:Int) (aK 0 (aE fOS 0) (aG fOS 0)) (decide (i.toNat<its.length)&&true) (IntKind.i64.wrap (i-1)) (decide (i>0)) (aC 0 (aB fOS)) (IOS q its n i) (aH i9) (P:=fun q0 q1 q2 q3 q4 q5 q6 q7 q8=>q2 ((aM tt q8 ([(2,⟨aE fOS 2,JOS q its n i q0.nm q0.ks 0,.ret,WOS q its n i q0.nm q0.ks⟩)]) 0 100 q6 q7) [(0,true),(0,true)])=
  some (.ret,(decide (i<q1)&&(decide (0≤i)&&(decide (i<q1)&&(q3&&(rp4 (!cV q0.1) ((!cV q0.1)&&true)))))),[],YOS q its n)∧q2 ((aM tt q8 ([(2,⟨aE fOS 2,JOS q its n i q0.nm q0.ks 0,.ret,WOS q its n i q0.nm q0.ks⟩)]) 0 100 q6 q7) [(0,true),(0,false),(0,true),(0,true)])=
  some (.ret,(decide (i<q1)&&(decide (0≤i)&&(decide (i<q1)&&(q3&&(rp3 (!!cV q0.1) (rp5 q5 (decide (0≤IntKind.i64.wrap (i-1))&&(decide (IntKind.i64.wrap (i-1)<q1)&&(rp2 q5 ((decide (q4.toNat<its.length)&&true)&&(rp3 q5 (!!cV q0.1&&((bif !cV q0.1 then true else bif decide (i>0)then !cX (its.getD q4.toNat bM).1 q0.1 else false)&&true))))))))))))),[],YOS q its n)∧q2 ((aM tt q8 ([(2,⟨aE fOS 2,JOS q its n i q0.nm q0.ks 0,.ret,WOS q its n i q0.nm q0.ks⟩)]) 0 100 q6 q7) [(0,true),(0,false),(0,true),(0,false)])=
  some (.ret,(decide (i<q1)&&(decide (0≤i)&&(decide (i<q1)&&(q3&&(rp3 (!!cV q0.1) (rp5 q5 (decide (0≤IntKind.i64.wrap (i-1))&&(decide (IntKind.i64.wrap (i-1)<q1)&&(rp2 q5 ((decide (q4.toNat<its.length)&&true)&&(rp3 q5 (!!cV q0.1&&((!bif !cV q0.1 then true else bif decide (i>0)then !cX (its.getD q4.toNat bM).1 q0.1 else false)&&true))))))))))))),[JOS q its n i q0.nm q0.ks 0=JOS q its n i q0.nm q0.ks 0],YOS q its n)∧q2 ((aM tt q8 ([(2,⟨aE fOS 2,JOS q its n i q0.nm q0.ks 0,.ret,WOS q its n i q0.nm q0.ks⟩)]) 0 100 q6 q7) [(0,true),(0,false),(0,false),(0,false)])=
  some (.ret,(decide (i<q1)&&(decide (0≤i)&&(decide (i<q1)&&(q3&&(rp3 (!!cV q0.1) ((!decide (i>0))&&(rp9 (!decide (i>0)) (!!cV q0.1&&(!decide (i>0)&&((!bif !cV q0.1 then true else false)&&true)))))))))),[JOS q its n i q0.nm q0.ks 0=JOS q its n i q0.nm q0.ks 0],YOS q its n)) ⟨by kernel_rfl,by kernel_rfl,by kernel_rfl,by kernel_rfl⟩
def a4R (q:Int) (its:List Itm) (n i:Int):=(zM q its n i).1
def a4S (q:Int) (its:List Itm) (n i:Int):=(zM q its n i).2.1
def a4T (q:Int) (its:List Itm) (n i:Int):=(zM q its n i).2.2.1
def a4U (q:Int) (its:List Itm) (n i:Int):=(zM q its n i).2.2.2
theorem a79 (q:Int) (its:List Itm) (n:Int):aJ tt (aH i9) ([(0,⟨aE fOS 0,IOS q its 0 0,.normal,XOS q its n⟩)]) 100 fOS [.agg [.int .i64 q,.view none (.typ .itm its) its.length 2 none]] [] [(0,true)]=
  some ⟨.c (.bool (bif bet q 0 12 then decide (n≤q)else false)),[],(rp3 (bet q 0 12) ((bet q 0 12)&&true)),[IOS q its 0 0=IOS q its 0 0]⟩:=by kernel_rfl
theorem a7A (q:Int) (its:List Itm) (n:Int):aJ tt (aH i9) ([(0,⟨aE fOS 0,IOS q its 0 0,.normal,XOS q its n⟩)]) 100 fOS [.agg [.int .i64 q,.view none (.typ .itm its) its.length 2 none]] [] [(0,false)]=
  some ⟨.c (.bool false),[],(rp4 (!bet q 0 12) ((!bet q 0 12)&&true)),[IOS q its 0 0=IOS q its 0 0]⟩:=by kernel_rfl
theorem a88 (q:Int) (its:List Itm) (n:Int):aJ tt (aH i9) ([(0,⟨aE fOS 0,IOS q its 0 0,.ret,YOS q its n⟩)]) 100 fOS [.agg [.int .i64 q,.view none (.typ .itm its) its.length 2 none]] [] []=
  some ⟨.c (.bool false),[],true,[IOS q its 0 0=IOS q its 0 0]⟩:=by kernel_rfl
def HW (its:List Itm) (i:Nat):Bool:=decide ((i:Int)>0)&& !cX (its.getD (i-1) bM).nm (its.getD i bM).nm
def tI (its:List Itm) (i:Nat):Bool:=itB (its.getD i bM).ks&&(cV (its.getD i bM).nm&& !HW its i)
def shB (q:Int) (its:List Itm):Bool:=cL (tI its) its.length 0&&(bet q 0 12&&decide (jP its≤q))
def sdI (its:List Itm):Bool:=decide (its.length≤274877906944)&&its.all fun x=>sdK x.ks
theorem l6 {its:List Itm} (h:sdI its=true):its.length≤274877906944∧ ∀i,sdK (its.getD i bM).ks=true:=by
 simp only[sdI,Bool.and_eq_true,rpS,decide_eq_true_eq]at h
 refine⟨h.1,fun i=> ?_⟩
 by_cases hi:i<its.length
 ·exact List.all_eq_true.1 h.2 _ (dC (d:=bM) hi)
 ·rw[List.getD_eq_getElem?_getD,List.getElem?_eq_none (by omega)];rfl
theorem fU {i:Nat} (h:decide ((i:Int)>0)=true) (h1:i≤274877906944):IntKind.i64.wrap ((i:Int)-1)=((i-1:Nat):Int):=by
 have:=of_decide_eq_true h
 rw[aF (by omega) (by omega)];omega
theorem lOI (q:Int) (its:List Itm) (h:sdI its=true):aP none Tryz.prog 0 (.block 0 (.loop (aC 0 (aB fOI)))) (IOI q its 0) fun e t=>e=(bif cL (tI its) its.length 0 then .normal else .ret)∧t=bif cL (tI its) its.length 0 then XOI q its else YOI q its:=by
 obtain⟨hn,hk⟩:=l6 h
 refine aP.all (ro:=none) hT kM bE its.length (tI its) (fun i=>IOI q its i) (XOI q its) (YOI q its) .ret (.inr rfl) (aE fOI 0) (aG fOI 0) (fun _=>[]) (fun _ _=>aL.nil) (fun i hi h=> ?_) (fun i hi h=> ?_) ⟨_,_,⟨_,_,a3T q its its.length,by simp,by simp⟩⟩
 ·have h4:sdK (its.getD i bM).2=true:=hk i
  unfold tI at h
  simp only[Bool.and_eq_true,rpS]at h
  obtain⟨h1,h2,h3⟩:=h
  have h1:itB (its.getD i bM).2=true:=h1
  have h2:cV (its.getD i bM).1=true:=h2
  cases h0:decide ((i:Int)>0)with
  |false=>
   have e:=a3S q its i
   rw[aF (i:=(i:Int)+1) (by omega) (by omega),Int.toNat_natCast]at e
   exact⟨_,_,⟨_,_,e,by simp only[h0,h1,h2,h4,decide_true,rpS,decide_false,beq_self_eq_true,bne_self_eq_false,Bool.not_true,Bool.not_false,Bool.not_not,cond_true,cond_false,Bool.true_and,Bool.and_true,Bool.false_and,Bool.and_false,Bool.or_true,Bool.true_or,Bool.or_false,Bool.false_or,Bool.and_eq_true,Bool.not_eq_true',decide_eq_true_eq,decide_eq_false_iff_not,true_and,and_true]<;>omega,by simp⟩⟩
  |true=>
   unfold HW at h3
   rw[h0]at h3
   have h3:cX (its.getD (i-1) bM).1 (its.getD i bM).1=true:=by simpa using h3
   have e:=a3R q its i
   rw[aF (i:=(i:Int)+1) (by omega) (by omega),fU h0 (by omega),Int.toNat_natCast,Int.toNat_natCast]at e
   exact⟨_,_,⟨_,_,e,by simp only[h0,h1,h2,h3,h4,decide_true,rpS,decide_false,beq_self_eq_true,bne_self_eq_false,Bool.not_true,Bool.not_false,Bool.not_not,cond_true,cond_false,Bool.true_and,Bool.and_true,Bool.false_and,Bool.and_false,Bool.or_true,Bool.true_or,Bool.or_false,Bool.false_or,Bool.and_eq_true,Bool.not_eq_true',decide_eq_true_eq,decide_eq_false_iff_not,true_and,and_true]<;>omega,by simp⟩⟩
 ·have h4:sdK (its.getD i bM).2=true:=hk i
  cases h1:itB (its.getD i bM).2 with
  |false=>
   have e:=a3O q its i
   rw[Int.toNat_natCast]at e
   exact⟨_,_,⟨_,_,e,by simp only[h1,h4,decide_true,rpS,decide_false,beq_self_eq_true,bne_self_eq_false,Bool.not_true,Bool.not_false,Bool.not_not,cond_true,cond_false,Bool.true_and,Bool.and_true,Bool.false_and,Bool.and_false,Bool.or_true,Bool.true_or,Bool.or_false,Bool.false_or,Bool.and_eq_true,Bool.not_eq_true',decide_eq_true_eq,decide_eq_false_iff_not,true_and,and_true]<;>omega,by simp⟩⟩
  |true=>
   cases h2:cV (its.getD i bM).1 with
   |false=>
    have e:=a3P q its i
    rw[Int.toNat_natCast]at e
    exact⟨_,_,⟨_,_,e,by simp only[h1,h2,h4,decide_true,rpS,decide_false,beq_self_eq_true,bne_self_eq_false,Bool.not_true,Bool.not_false,Bool.not_not,cond_true,cond_false,Bool.true_and,Bool.and_true,Bool.false_and,Bool.and_false,Bool.or_true,Bool.true_or,Bool.or_false,Bool.false_or,Bool.and_eq_true,Bool.not_eq_true',decide_eq_true_eq,decide_eq_false_iff_not,true_and,and_true]<;>omega,by simp⟩⟩
   |true=>
    unfold tI HW at h
    rw[show itB (its.getD i bM).ks=true from h1,show cV (its.getD i bM).nm=true from h2]at h
    have h0:decide ((i:Int)>0)=true:=by
     cases h0:decide ((i:Int)>0)with
     |true=>rfl
     |false=>rw[h0]at h;cases h
    rw[h0]at h
    have h3:cX (its.getD (i-1) bM).1 (its.getD i bM).1=false:=by simpa using h
    have e:=a3Q q its i
    rw[fU h0 (by omega),Int.toNat_natCast,Int.toNat_natCast]at e
    have:=of_decide_eq_true h0
    exact⟨_,_,⟨_,_,e,by simp only[h0,h1,h2,h3,h4,decide_true,rpS,decide_false,beq_self_eq_true,bne_self_eq_false,Bool.not_true,Bool.not_false,Bool.not_not,cond_true,cond_false,Bool.true_and,Bool.and_true,Bool.false_and,Bool.and_false,Bool.or_true,Bool.true_or,Bool.or_false,Bool.false_or,Bool.and_eq_true,Bool.not_eq_true',decide_eq_true_eq,decide_eq_false_iff_not,true_and,and_true]<;>omega,by simp⟩⟩
theorem lJS (q:Int) (its:List Itm) (n i:Int) (nm:ByteArray) (ks:List PK) (h:sdK ks=true):aP none Tryz.prog 0 (.block 2 (.loop (aC 2 (aB fOS)))) (JOS q its n i nm ks 0) fun e t=>e=(bif ks.all okR then .normal else .ret)∧t=bif ks.all okR then ZOS q its n i nm ks else WOS q its n i nm ks:=by
 obtain⟨h1,h2⟩:=rU h
 rw[←AL (d:=PK0)]
 refine aP.all (ro:=none) hT kM bE ks.length (fun j=>okR (ks.getD j PK0)) (fun j=>JOS q its n i nm ks j) (ZOS q its n i nm ks) (WOS q its n i nm ks) .ret (.inr rfl) (aE fOS 2) (aG fOS 2) (fun _=>[]) (fun _ _=>aL.nil) (fun j hj h=> ?_) (fun j hj h=> ?_) ⟨_,_,⟨_,_,a0N q its n i nm ks ks.length,by simp,by simp⟩⟩
 ·obtain⟨h3,h4⟩:=h2 j
  have h:okR (ks.getD j PK0)=true:=h
  unfold okR at h
  rw[Bool.and_eq_true,Bool.not_eq_true']at h
  have k1:bT (ks.getD j PK0).1 (ks.getD j PK0).2 (ks.getD j PK0).3 (ks.getD j PK0).4 (ks.getD j PK0).5 (ks.getD j PK0).6 (ks.getD j PK0).7 (ks.getD j PK0).8=true:=h.1
  have k2:(ks.getD j PK0).5=false:=h.2
  rw[k2]at k1
  have e:=a0M q its n i nm ks j
  rw[aF (i:=(j:Int)+1) (by omega) (by omega),Int.toNat_natCast]at e
  exact⟨_,_,⟨_,_,e,by simp only[h3,h4,k1,k2,decide_true,rpS,decide_false,beq_self_eq_true,bne_self_eq_false,Bool.not_true,Bool.not_false,Bool.not_not,cond_true,cond_false,Bool.true_and,Bool.and_true,Bool.false_and,Bool.and_false,Bool.or_true,Bool.true_or,Bool.or_false,Bool.false_or,Bool.and_eq_true,Bool.not_eq_true',decide_eq_true_eq,decide_eq_false_iff_not,true_and,and_true]<;>omega,by simp⟩⟩
 ·obtain⟨h3,h4⟩:=h2 j
  have h:okR (ks.getD j PK0)=false:=h
  unfold okR at h
  cases k1:(ks.getD j PK0).ok with
  |false=>
   have k1:bT (ks.getD j PK0).1 (ks.getD j PK0).2 (ks.getD j PK0).3 (ks.getD j PK0).4 (ks.getD j PK0).5 (ks.getD j PK0).6 (ks.getD j PK0).7 (ks.getD j PK0).8=false:=k1
   have e:=a0K q its n i nm ks j
   rw[Int.toNat_natCast]at e
   exact⟨_,_,⟨_,_,e,by simp only[h3,h4,k1,decide_true,rpS,decide_false,beq_self_eq_true,bne_self_eq_false,Bool.not_true,Bool.not_false,Bool.not_not,cond_true,cond_false,Bool.true_and,Bool.and_true,Bool.false_and,Bool.and_false,Bool.or_true,Bool.true_or,Bool.or_false,Bool.false_or,Bool.and_eq_true,Bool.not_eq_true',decide_eq_true_eq,decide_eq_false_iff_not,true_and,and_true]<;>omega,by simp⟩⟩
  |true=>
   rw[k1]at h
   have k2:(ks.getD j PK0).5=true:=by simpa using h
   have k1:bT (ks.getD j PK0).1 (ks.getD j PK0).2 (ks.getD j PK0).3 (ks.getD j PK0).4 (ks.getD j PK0).5 (ks.getD j PK0).6 (ks.getD j PK0).7 (ks.getD j PK0).8=true:=k1
   rw[k2]at k1
   have e:=a0L q its n i nm ks j
   rw[Int.toNat_natCast]at e
   exact⟨_,_,⟨_,_,e,by simp only[h3,h4,k1,k2,decide_true,rpS,decide_false,beq_self_eq_true,bne_self_eq_false,Bool.not_true,Bool.not_false,Bool.not_not,cond_true,cond_false,Bool.true_and,Bool.and_true,Bool.false_and,Bool.and_false,Bool.or_true,Bool.true_or,Bool.or_false,Bool.false_or,Bool.and_eq_true,Bool.not_eq_true',decide_eq_true_eq,decide_eq_false_iff_not,true_and,and_true]<;>omega,by simp⟩⟩
theorem N3 {β:Type} {f:Nat→Bool} {g:Nat→β→β}: ∀k i b,match cG (β:=β) (γ:=β) (fun i n=>bif f i then .inl (g i n)else .inr n) k i b with
  |.inl c=>cL f k i=true∧c=bI g k i b
  |.inr _=>cL f k i=false:=by
 intro k
 induction k with
 |zero=>intro i b;exact⟨rfl,rfl⟩
 |succ k ih=>
  intro i b
  simp only[cG,cL,bI]
  cases h:f i with
  |false=>rfl
  |true=>
   have:=ih (i+1) (g i b)
   simpa only[cond_true,Bool.true_and]using this
noncomputable def yS (q:Int) (its:List Itm) (i:Nat) (n:Int):List (Nat×LC):=bif (its.getD i bM).ks.all okR then [(2,⟨aE fOS 2,JOS q its n i (its.getD i bM).nm (its.getD i bM).ks 0,.normal,ZOS q its n i (its.getD i bM).nm (its.getD i bM).ks⟩)]else [(2,⟨aE fOS 2,JOS q its n i (its.getD i bM).nm (its.getD i bM).ks 0,.ret,WOS q its n i (its.getD i bM).nm (its.getD i bM).ks⟩)]
theorem PG (q:Int) (its:List Itm) (h:sdI its=true) (i:Nat) (n:Int):aL none Tryz.prog 0 (yS q its i n) (aC 0 (aB fOS)):=by
 have g:=lJS q its n i (its.getD i bM).nm (its.getD i bM).ks ((l6 h).2 i)
 unfold yS
 cases ha:(its.getD i bM).ks.all okR with
 |false=>rw[ha]at g;exact aL.blk (b:=.loop (aC 2 (aB fOS))) (by kernel_rfl) g aL.nil
 |true=>rw[ha]at g;exact aL.blk (b:=.loop (aC 2 (aB fOS))) (by kernel_rfl) g aL.nil
theorem lOS (q:Int) (its:List Itm) (h:sdI its=true):match cG (β:=Int) (γ:=Int) (fun i n=>bif tI its i then .inl (usS its i n)else .inr n) its.length 0 0 with
  |.inl c=>aP none Tryz.prog 0 (.block 0 (.loop (aC 0 (aB fOS)))) (IOS q its 0 0) fun e t=>e=.normal∧t=XOS q its c
  |.inr c=>aP none Tryz.prog 0 (.block 0 (.loop (aC 0 (aB fOS)))) (IOS q its 0 0) fun e t=>e=.ret∧t=YOS q its c:=by
 obtain⟨hn,hk⟩:=l6 h
 have g:=aP.countE (ro:=none) hT kM bE (m:=0) (id:=0) (body:=aC 0 (aB fOS)) (β:=Int) (γ:=Int) its.length (fun _ _=>True) (fun i n=>IOS q its n i) (fun n=>XOS q its n) (fun n=>YOS q its n) .ret (.inr rfl)
  (fun i n=>bif tI its i then .inl (usS its i n)else .inr n) (aE fOS 0) (aG fOS 0) (yS q its) (fun i n _ _=>PG q its h i n) (fun i n hi _=> ?_) (fun n _=>⟨_,_,⟨_,_,a40 q its n its.length [],by simp,by simp⟩⟩) 0 trivial
 ·split<;>rename_i hq<;>rw[hq]at g<;>exact g
 ·have h4:sdK (its.getD i bM).2=true:=hk i
  cases h2:cV (its.getD i bM).1 with
  |false=>
   refine .inr ⟨n,by unfold tI;rw[show cV (its.getD i bM).nm=false from h2,Bool.false_and,Bool.and_false];rfl, ?_⟩
   unfold yS
   cases ha:(its.getD i bM).ks.all okR with
   |true=>
    have e:=a3U q its n i
    simp only[Int.toNat_natCast]at e
    exact⟨_,_,⟨_,_,e,by simp only[h2,decide_true,rpS,decide_false,beq_self_eq_true,bne_self_eq_false,Bool.not_true,Bool.not_false,Bool.not_not,cond_true,cond_false,Bool.true_and,Bool.and_true,Bool.false_and,Bool.and_false,Bool.or_true,Bool.true_or,Bool.or_false,Bool.false_or,Bool.and_eq_true,Bool.not_eq_true',decide_eq_true_eq,decide_eq_false_iff_not,true_and,and_true]<;>omega,by simp⟩⟩
   |false=>
    have e:=a4R q its n i
    simp only[Int.toNat_natCast]at e
    exact⟨_,_,⟨_,_,e,by simp only[h2,decide_true,rpS,decide_false,beq_self_eq_true,bne_self_eq_false,Bool.not_true,Bool.not_false,Bool.not_not,cond_true,cond_false,Bool.true_and,Bool.and_true,Bool.false_and,Bool.and_false,Bool.or_true,Bool.true_or,Bool.or_false,Bool.false_or,Bool.and_eq_true,Bool.not_eq_true',decide_eq_true_eq,decide_eq_false_iff_not,true_and,and_true]<;>omega,by simp⟩⟩
  |true=>
   cases h0:HW its i with
   |true=>
    have h0':=h0
    unfold HW at h0'
    rw[Bool.and_eq_true]at h0'
    have h3:cX (its.getD (i-1) bM).1 (its.getD i bM).1=false:=by simpa using h0'.2
    have h00:=h0'.1
    have:=of_decide_eq_true h00
    refine .inr ⟨n,by unfold tI;rw[h0,Bool.not_true,Bool.and_false,Bool.and_false];rfl, ?_⟩
    unfold yS
    cases ha:(its.getD i bM).ks.all okR with
    |true=>
     have e:=a3V q its n i
     rw[fU h00 (by omega)]at e
     simp only[Int.toNat_natCast]at e
     exact⟨_,_,⟨_,_,e,by simp only[h2,h3,h00,decide_true,rpS,decide_false,beq_self_eq_true,bne_self_eq_false,Bool.not_true,Bool.not_false,Bool.not_not,cond_true,cond_false,Bool.true_and,Bool.and_true,Bool.false_and,Bool.and_false,Bool.or_true,Bool.true_or,Bool.or_false,Bool.false_or,Bool.and_eq_true,Bool.not_eq_true',decide_eq_true_eq,decide_eq_false_iff_not,true_and,and_true]<;>omega,by simp⟩⟩
    |false=>
     have e:=a4S q its n i
     rw[fU h00 (by omega)]at e
     simp only[Int.toNat_natCast]at e
     exact⟨_,_,⟨_,_,e,by simp only[h2,h3,h00,decide_true,rpS,decide_false,beq_self_eq_true,bne_self_eq_false,Bool.not_true,Bool.not_false,Bool.not_not,cond_true,cond_false,Bool.true_and,Bool.and_true,Bool.false_and,Bool.and_false,Bool.or_true,Bool.true_or,Bool.or_false,Bool.false_or,Bool.and_eq_true,Bool.not_eq_true',decide_eq_true_eq,decide_eq_false_iff_not,true_and,and_true]<;>omega,by simp⟩⟩
   |false=>
    have tq:tI its i=itB (its.getD i bM).2:=by unfold tI;rw[h0,show cV (its.getD i bM).nm=true from h2];simp
    rw[tq]
    have h3:decide ((i:Int)>0)=true→cX (its.getD (i-1) bM).1 (its.getD i bM).1=true:=fun h00=>by
     unfold HW at h0
     rw[h00]at h0
     simpa using h0
    cases ha:(its.getD i bM).ks.all okR with
    |false=>
     have hi':itB (its.getD i bM).2=false:=by unfold itB;rw[show(its.getD i bM).2.all okR=false from ha];rfl
     rw[hi']
     have el:yS q its i n=[(2,⟨aE fOS 2,JOS q its n i (its.getD i bM).nm (its.getD i bM).ks 0,.ret,WOS q its n i (its.getD i bM).nm (its.getD i bM).ks⟩)]:=by unfold yS;rw[ha];rfl
     rw[el]
     cases h00:decide ((i:Int)>0)with
     |true=>
      have e:=a4T q its n i
      have h3:=h3 h00
      rw[fU h00 (by omega)]at e
      simp only[Int.toNat_natCast]at e
      exact .inr ⟨n,rfl,_,_,⟨_,_,e,by simp only[h2,h3,h00,decide_true,rpS,decide_false,beq_self_eq_true,bne_self_eq_false,Bool.not_true,Bool.not_false,Bool.not_not,cond_true,cond_false,Bool.true_and,Bool.and_true,Bool.false_and,Bool.and_false,Bool.or_true,Bool.true_or,Bool.or_false,Bool.false_or,Bool.and_eq_true,Bool.not_eq_true',decide_eq_true_eq,decide_eq_false_iff_not,true_and,and_true]<;>omega,by simp⟩⟩
     |false=>
      have e:=a4U q its n i
      simp only[Int.toNat_natCast]at e
      exact .inr ⟨n,rfl,_,_,⟨_,_,e,by simp only[h2,h00,decide_true,rpS,decide_false,beq_self_eq_true,bne_self_eq_false,Bool.not_true,Bool.not_false,Bool.not_not,cond_true,cond_false,Bool.true_and,Bool.and_true,Bool.false_and,Bool.and_false,Bool.or_true,Bool.true_or,Bool.or_false,Bool.false_or,Bool.and_eq_true,Bool.not_eq_true',decide_eq_true_eq,decide_eq_false_iff_not,true_and,and_true]<;>omega,by simp⟩⟩
    |true=>
     have ha':(its.getD i bM).2.all okR=true:=ha
     have el:yS q its i n=[(2,⟨aE fOS 2,JOS q its n i (its.getD i bM).nm (its.getD i bM).ks 0,.normal,ZOS q its n i (its.getD i bM).nm (its.getD i bM).ks⟩)]:=by unfold yS;rw[ha];rfl
     rw[el]
     cases hb:itB (its.getD i bM).2 with
     |false=>
      cases h00:decide ((i:Int)>0)with
      |true=>
       have e:=a3W q its n i
       have h3:=h3 h00
       rw[fU h00 (by omega)]at e
       simp only[Int.toNat_natCast]at e
       exact .inr ⟨n,rfl,_,_,⟨_,_,e,by simp only[h2,h3,h00,h4,ha',hb,decide_true,rpS,decide_false,beq_self_eq_true,bne_self_eq_false,Bool.not_true,Bool.not_false,Bool.not_not,cond_true,cond_false,Bool.true_and,Bool.and_true,Bool.false_and,Bool.and_false,Bool.or_true,Bool.true_or,Bool.or_false,Bool.false_or,Bool.and_eq_true,Bool.not_eq_true',decide_eq_true_eq,decide_eq_false_iff_not,true_and,and_true]<;>omega,by simp⟩⟩
      |false=>
       have e:=a3Y q its n i
       simp only[Int.toNat_natCast]at e
       exact .inr ⟨n,rfl,_,_,⟨_,_,e,by simp only[h2,h00,h4,ha',hb,decide_true,rpS,decide_false,beq_self_eq_true,bne_self_eq_false,Bool.not_true,Bool.not_false,Bool.not_not,cond_true,cond_false,Bool.true_and,Bool.and_true,Bool.false_and,Bool.and_false,Bool.or_true,Bool.true_or,Bool.or_false,Bool.false_or,Bool.and_eq_true,Bool.not_eq_true',decide_eq_true_eq,decide_eq_false_iff_not,true_and,and_true]<;>omega,by simp⟩⟩
     |true=>
      cases h00:decide ((i:Int)>0)with
      |true=>
       have e:=a3X q its n i
       have h3:=h3 h00
       rw[aF (i:=(i:Int)+1) (by omega) (by omega),fU h00 (by omega)]at e
       simp only[Int.toNat_natCast]at e
       exact .inl ⟨_,rfl,trivial,_,_,⟨_,_,e,by simp only[h2,h3,h00,h4,ha',hb,decide_true,rpS,decide_false,beq_self_eq_true,bne_self_eq_false,Bool.not_true,Bool.not_false,Bool.not_not,cond_true,cond_false,Bool.true_and,Bool.and_true,Bool.false_and,Bool.and_false,Bool.or_true,Bool.true_or,Bool.or_false,Bool.false_or,Bool.and_eq_true,Bool.not_eq_true',decide_eq_true_eq,decide_eq_false_iff_not,true_and,and_true]<;>omega,by simp⟩⟩
      |false=>
       have e:=a3Z q its n i
       rw[aF (i:=(i:Int)+1) (by omega) (by omega)]at e
       simp only[Int.toNat_natCast]at e
       exact .inl ⟨_,rfl,trivial,_,_,⟨_,_,e,by simp only[h2,h00,h4,ha',hb,decide_true,rpS,decide_false,beq_self_eq_true,bne_self_eq_false,Bool.not_true,Bool.not_false,Bool.not_not,cond_true,cond_false,Bool.true_and,Bool.and_true,Bool.false_and,Bool.and_false,Bool.or_true,Bool.true_or,Bool.or_false,Bool.false_or,Bool.and_eq_true,Bool.not_eq_true',decide_eq_true_eq,decide_eq_false_iff_not,true_and,and_true]<;>omega,by simp⟩⟩
def SN:aO:=fun args h=>
 match args,h with
 |[.agg [.int .i64 q,.view _ (.typ .itm its) n 2 _]],[]=>
  some (.c (.bool (shB q its)),[],[decide (n=its.length),sdI its])
 |_,_=>none
theorem mOI:aT Tryz.prog 18 SN:=by
 intro args h res h' o hnorm he ho
 unfold SN at he
 split at he
 case h_2=>cases he
 rename_i q nl its n cap
 simp only[Option.some.injEq,Prod.mk.injEq]at he
 obtain⟨rfl,rfl,rfl⟩:=he
 simp only[List.mem_cons,List.not_mem_nil,or_false,forall_eq_or_imp,forall_eq,decide_eq_true_eq]at ho
 obtain⟨o1,o2⟩:=ho
 simp only[b8,AV.norm,bA,aI.norm,Con.size,List.cons.injEq,AV.c.injEq,AV.agg.injEq,aI.view.injEq,aN,true_and,and_true]at hnorm
 obtain⟨rfl,_,rfl⟩:=hnorm
 subst o1
 have g:=lOI q its o2
 have hn:=decide_eq_true (l6 o2).1
 unfold shB
 cases ha:cL (tI its) its.length 0 with
 |false=>rw[ha]at g;exact bW kM (a87 q its) (by kernel_rfl) (by kernel_rfl) (by kernel_rfl) g (by simp) rfl
 |true=>
  rw[ha]at g
  cases hb:bet q 0 12 with
  |false=>exact bW kM (a78 q its) (by kernel_rfl) (by kernel_rfl) (by kernel_rfl) g (by simp) (by simp only[hb,decide_true,rpS,decide_false,beq_self_eq_true,bne_self_eq_false,Bool.not_true,Bool.not_false,Bool.not_not,cond_true,cond_false,Bool.true_and,Bool.and_true,Bool.false_and,Bool.and_false,Bool.or_true,Bool.true_or,Bool.or_false,Bool.false_or,Bool.and_eq_true,Bool.not_eq_true',decide_eq_true_eq,decide_eq_false_iff_not,true_and,and_true])
  |true=>
   have e:=a77 q its
   rw[hb]at e
   exact bW kM e (by kernel_rfl) (by kernel_rfl) (by kernel_rfl) g (by simp) (by simp only[hn,decide_true,rpS,decide_false,beq_self_eq_true,bne_self_eq_false,Bool.not_true,Bool.not_false,Bool.not_not,cond_true,cond_false,Bool.true_and,Bool.and_true,Bool.false_and,Bool.and_false,Bool.or_true,Bool.true_or,Bool.or_false,Bool.false_or,Bool.and_eq_true,Bool.not_eq_true',decide_eq_true_eq,decide_eq_false_iff_not,true_and,and_true])
def SO:aO:=fun args h=>
 match args,h with
 |[.agg [.int .i64 q,.view _ (.typ .itm its) n 2 _]],[]=>
  some (.c (.bool (shB q its)),[],[decide (n=its.length),sdI its])
 |_,_=>none
theorem mOS:aT Tryz.prog 16 SO:=by
 intro args h res h' o hnorm he ho
 unfold SO at he
 split at he
 case h_2=>cases he
 rename_i q nl its n cap
 simp only[Option.some.injEq,Prod.mk.injEq]at he
 obtain⟨rfl,rfl,rfl⟩:=he
 simp only[List.mem_cons,List.not_mem_nil,or_false,forall_eq_or_imp,forall_eq,decide_eq_true_eq]at ho
 obtain⟨o1,o2⟩:=ho
 simp only[b8,AV.norm,bA,aI.norm,Con.size,List.cons.injEq,AV.c.injEq,AV.agg.injEq,aI.view.injEq,aN,true_and,and_true]at hnorm
 obtain⟨rfl,_,rfl⟩:=hnorm
 subst o1
 have g:=lOS q its o2
 have c:=N3 (f:=tI its) (g:=usS its) its.length 0 0
 unfold shB jP
 generalize cG (β:=Int) (γ:=Int) (fun i n=>bif tI its i then .inl (usS its i n)else .inr n) its.length 0 0=r at g c
 rcases r with r|r
 ·obtain⟨c1,c2⟩:=c
  rw[c1,←c2]
  cases hb:bet q 0 12 with
  |false=>exact bW kM (a7A q its r) (by kernel_rfl) (by kernel_rfl) (by kernel_rfl) g (by simp) (by simp only[hb,decide_true,rpS,decide_false,beq_self_eq_true,bne_self_eq_false,Bool.not_true,Bool.not_false,Bool.not_not,cond_true,cond_false,Bool.true_and,Bool.and_true,Bool.false_and,Bool.and_false,Bool.or_true,Bool.true_or,Bool.or_false,Bool.false_or,Bool.and_eq_true,Bool.not_eq_true',decide_eq_true_eq,decide_eq_false_iff_not,true_and,and_true])
  |true=>
   have e:=a79 q its r
   rw[hb]at e
   exact bW kM e (by kernel_rfl) (by kernel_rfl) (by kernel_rfl) g (by simp) (by simp only[decide_true,rpS,decide_false,beq_self_eq_true,bne_self_eq_false,Bool.not_true,Bool.not_false,Bool.not_not,cond_true,cond_false,Bool.true_and,Bool.and_true,Bool.false_and,Bool.and_false,Bool.or_true,Bool.true_or,Bool.or_false,Bool.false_or,Bool.and_eq_true,Bool.not_eq_true',decide_eq_true_eq,decide_eq_false_iff_not,true_and,and_true])
 ·rw[c]
  exact bW kM (a88 q its r) (by kernel_rfl) (by kernel_rfl) (by kernel_rfl) g (by simp) rfl
end
section
deriving instance DecidableEq for PK
deriving instance DecidableEq for Itm
noncomputable abbrev lE:=Tryz.f154
noncomputable def sI (a:List PK) (l i:Int):St:=aS lE.ntmps [(0,.c (.view none (.typ .pk a) a.length 8 none)),(1,.c (.int .i64 l)),(5,.c (.int .i64 i))] []
noncomputable def OE (a:List PK) (l:Int):St:=aS lE.ntmps [(1,.c (.int .i64 l))] []
noncomputable def OK (a:List PK) (l:Int):St:=aS lE.ntmps [(1,.c (.int .i64 l)),(4,.c (.int .i64 (-1)))] []
def zF (a:List PK) (l i:Int):=bt5 (a.getD i.toNat PK0) (aM tt (aH i9) ([]) 0 100 (aC 0 (aB lE)) (sI a l i)) (aK 0 (aE lE 0) (aG lE 0)) (↑a.length:Int) (decide (i.toNat<a.length)&&true) (P:=fun q0 q1 q2 q3 q4=>q2 (q1 [(0,true),(0,true)])=
  some (.ret,(decide (i<q3)&&(decide (0≤i)&&(decide (i<q3)&&(q4&&(decide (q0.2.length≤9223372036854775807)&&(decide (q0.3.length≤9223372036854775807)&&(decide (q0.4.length≤9223372036854775807)&&(decide (q0.7.length≤9223372036854775807)&&(decide (0≤l)&&(decide (l≤1048576)&&((decide (szF l (q0.2.length+q0.3.length+q0.4.length+q0.7.length)<0))&&true))))))))))),[],OK a (szF l (q0.2.length+q0.3.length+q0.4.length+q0.7.length)))∧q2 (q1 [(0,true),(0,false)])=
  some (.normal,(decide (i<q3)&&(decide (0≤i)&&(decide (i<q3)&&(q4&&(decide (q0.2.length≤9223372036854775807)&&(decide (q0.3.length≤9223372036854775807)&&(decide (q0.4.length≤9223372036854775807)&&(decide (q0.7.length≤9223372036854775807)&&(decide (0≤l)&&(decide (l≤1048576)&&((!decide (szF l (q0.2.length+q0.3.length+q0.4.length+q0.7.length)<0))&&true))))))))))),[],sI a (szF l (q0.2.length+q0.3.length+q0.4.length+q0.7.length)) (IntKind.i64.wrap (i+1)))∧q2 (q1 [(0,false)])=
  some (.exit 0,((!decide (i<q3))&&true),[],OE a l)) ⟨by kernel_rfl,by kernel_rfl,by kernel_rfl⟩
def WR (a:List PK) (l i:Int):=(zF a l i).1
def WS (a:List PK) (l i:Int):=(zF a l i).2.1
def WT (a:List PK) (l i:Int):=(zF a l i).2.2
theorem ZA (a:List PK) (l k:Int) (lcv:List (Nat×LC)):aJ tt (aH i9) (lcv) 100 lE [.c (.view none (.typ .pk a) a.length 8 none),.c (.int .i64 l)] [] [(0,true)]=
  some ⟨.c (.int .i64 (-1)),[],((decide (IntKind.i64.wrap (l-(↑a.length:Int))<0))&&true),[]⟩:=by kernel_rfl
def ZB (a:List PK) (l k:Int):=bt1 (IntKind.i64.wrap (l-(a.length:Int))) (P:=fun q0=>(aJ tt (aH i9) ([(0,⟨aE lE 0,sI a q0 0,.normal,OE a k⟩)]) 100 lE [.c (.view none (.typ .pk a) a.length 8 none),.c (.int .i64 l)] []) [(0,false)]=
  some ⟨.c (.int .i64 k),[],((!decide (IntKind.i64.wrap (l-(↑a.length:Int))<0))&&true),[sI a q0 0=sI a q0 0]⟩) (by kernel_rfl)
def ZH (a:List PK) (l k:Int):=bt1 (IntKind.i64.wrap (l-(a.length:Int))) (P:=fun q0=>(aJ tt (aH i9) ([(0,⟨aE lE 0,sI a q0 0,.ret,OK a k⟩)]) 100 lE [.c (.view none (.typ .pk a) a.length 8 none),.c (.int .i64 l)] []) [(0,false)]=
  some ⟨.c (.int .i64 (-1)),[],((!decide (IntKind.i64.wrap (l-(↑a.length:Int))<0))&&true),[sI a q0 0=sI a q0 0]⟩) (by kernel_rfl)
noncomputable abbrev tF:=Tryz.f165
noncomputable def DS (a:List PK) (c:List PK) (i:Int):St:=aS tF.ntmps [(0,.c (.view none (.typ .pk a) a.length 8 none)),(3,.c (.sl 0 0 a.length 8 none)),(4,.c (.int .i64 i))] [.live (.typ .pk c)]
noncomputable def OG (a:List PK) (c:List PK):St:=aS tF.ntmps [(3,.c (.sl 0 0 a.length 8 none))] [.live (.typ .pk c)]
def GP (a:List PK) (c:List PK) (i:Int):=bt4 (a.getD i.toNat PK0) (aM tt (aH i9) ([]) 0 100 (aC 0 (aB tF)) (DS a c i)) (↑a.length:Int) (aK 0 (aE tF 0) (aG tF 0)) (P:=fun q0 q1 q2 q3=>q3 (q1 [(0,true)])=
  some (.normal,(decide (i<q2)&&(decide (0≤i)&&(decide (i<q2)&&((decide (i.toNat<a.length)&&true)&&((decide (q0.2.length≤274877906944)&&(decide (q0.3.length≤274877906944)&&(decide (q0.4.length≤274877906944)&&true))&&(decide (q0.7.length≤274877906944)&&true))&&(decide (0≤i)&&(decide (i<q2)&&(decide (q0.2.length=q0.2.length)&&(decide (q0.3.length=q0.3.length)&&(decide (q0.4.length=q0.4.length)&&(decide (q0.7.length=q0.7.length)&&((decide (i.toNat<c.length)&&true)&&true)))))))))))),[],DS a (c.set i.toNat q0) (IntKind.i64.wrap (i+1)))∧q3 (q1 [(0,false)])=
  some (.exit 0,((!decide (i<q2))&&true),[],OG a c)) ⟨by kernel_rfl,by kernel_rfl⟩
def WX (a:List PK) (c:List PK) (i:Int):=(GP a c i).1
def WY (a:List PK) (c:List PK) (i:Int):=(GP a c i).2
def ZD (a:List PK):=bt2 (List.replicate a.length PK0) (↑a.length:Int) (P:=fun q0 q1=>(aJ tt (aH i9) ([(0,⟨aE tF 0,DS a q0 0,.normal,OG a a⟩)]) 100 tF [.c (.view none (.typ .pk a) a.length 8 none)] []) []=
  some ⟨.c (.sl 0 0 a.length 8 none),[.live (.typ Ty.pk a)],(decide (q1≤q1)&&((decide (q1≤274877906944))&&true)),[DS a q0 0=DS a q0 0]⟩) (by kernel_rfl)
noncomputable abbrev tD:=Tryz.f170
noncomputable def DQ (a:List PK) (i:Int):St:=aS tD.ntmps [(0,.c (.view none (.typ .pk a) a.length 8 none)),(1,.c (.view none (.typ .pk a) a.length 8 none)),(5,.c (.int .i64 i))] []
noncomputable def OC (a:List PK):St:=aS tD.ntmps [] []
def GN (a:List PK) (i:Int):=bt5 (a.getD i.toNat PK0) (aM tt (aH i9) ([]) 0 100 (aC 0 (aB tD)) (DQ a i)) (↑a.length:Int) (aK 0 (aE tD 0) (aG tD 0)) (decide (i.toNat<a.length)&&true) (P:=fun q0 q1 q2 q3 q4=>q3 (q1 [(0,true)])=
  some (.normal,(decide (i<q2)&&(decide (0≤i)&&(decide (i<q2)&&(q4&&(decide (0≤i)&&(decide (i<q2)&&(q4&&((!q0.1 !=q0.1&&(decide (q0.2.length≤274877906944)&&(decide (q0.2=q0.2)&&(decide (q0.3.length≤274877906944)&&(decide (q0.3=q0.3)&&(decide (q0.4.length≤274877906944)&&(decide (q0.4=q0.4)&&true))))))&&(!!q0.5==q0.5&&(!q0.6 !=q0.6&&(decide (q0.7.length≤274877906944)&&(decide (q0.7=q0.7)&&(!q0.8 !=q0.8&&true))))))&&true)))))))),[],DQ a (IntKind.i64.wrap (i+1)))∧q3 (q1 [(0,false)])=
  some (.exit 0,((!decide (i<q2))&&true),[],OC a)) ⟨by kernel_rfl,by kernel_rfl⟩
def WM (a:List PK) (i:Int):=(GN a i).1
def WN (a:List PK) (i:Int):=(GN a i).2
theorem Z7 (a:List PK):aJ tt (aH i9) ([(0,⟨aE tD 0,DQ a 0,.normal,OC a⟩)]) 100 tD [.c (.view none (.typ .pk a) a.length 8 none),.c (.view none (.typ .pk a) a.length 8 none)] [] [(0,false)]=
  some ⟨.c (.bool true),[],((!(↑a.length:Int)!=(↑a.length:Int))&&true),[DQ a 0=DQ a 0]⟩:=by kernel_rfl
def nZ (g:Nat→Nat):Nat→Nat→Nat
 |0,_=>0
 |n+1,i=>g i+nZ g n (i+1)
theorem zP {g:Nat→Nat}: ∀ {n i k:Nat},i≤k→k<i+n→g k≤nZ g n i
 |0,i,k,h1,h2=>absurd h2 (by omega)
 |n+1,i,k,h1,h2=>by
  by_cases e:k=i
  ·subst e;simp only[nZ];omega
  ·have:=zP (g:=g) (n:=n) (i:=i+1) (k:=k) (by omega) (by omega)
   simp only[nZ];omega
theorem GS {g:Nat→Nat}: ∀k i l,0≤l→match cG (β:=Int) (γ:=Int) (fun i l=>bif decide (szF l (g i)<0)then .inr (szF l (g i))else .inl (szF l (g i))) k i l with
  |.inl c=>c=l-(nZ g k i:Nat)∧0≤c
  |.inr _=>l-(nZ g k i:Nat)<0:=by
 intro k
 induction k with
 |zero=>intro i l h;exact⟨by simp[nZ],h⟩
 |succ k ih=>
  intro i l h
  simp only[cG,nZ]
  by_cases c:l-(g i:Int)<0
  ·rw[aC1 c]
   show l-_<0
   omega
  ·rw[aC2 c]
   have:=ih (i+1) (l-(g i:Int)) (by omega)
   rw[decide_eq_false c]
   simp only[cond_false]
   split<;>rename_i hq<;>rw[hq]at this
   ·exact⟨by rw[this.1];omega,this.2⟩
   ·have:=this;omega
def PK.zs (x:PK):Nat:=x.a.length+x.b.length+x.c.length+x.d.length
def hC (ks:List PK):Nat:=ks.length+nZ (fun i=>(ks.getD i PK0).zs) ks.length 0
def Itm.zs (x:Itm):Nat:=x.nm.size+hC x.ks
def rF (its:List Itm):Nat:=its.length+nZ (fun i=>(its.getD i bM).zs) its.length 0
def PK.sm (x:PK):Bool:=decide (x.a.length≤9223372036854775807)&&(decide (x.b.length≤9223372036854775807)&&(decide (x.c.length≤9223372036854775807)&&decide (x.d.length≤9223372036854775807)))
def uX (ks:List PK):Bool:=decide (ks.length≤9223372036854775807)&&ks.all PK.sm
def Itm.sm (x:Itm):Bool:=decide (x.nm.size≤9223372036854775807)&&uX x.ks
def F6 (its:List Itm):Bool:=decide (its.length≤9223372036854775807)&&its.all Itm.sm
theorem PK.sm_iff {x:PK}:x.sm=true↔decide (x.2.length≤9223372036854775807)=true∧decide (x.3.length≤9223372036854775807)=true∧decide (x.4.length≤9223372036854775807)=true∧decide (x.7.length≤9223372036854775807)=true:=by
 unfold PK.sm;simp only[Bool.and_eq_true,rpS]
theorem C3 {a:List PK} (h:uX a=true):a.length≤9223372036854775807∧ ∀i,i<a.length→(a.getD i PK0).sm=true:=by
 simp only[uX,Bool.and_eq_true,rpS,decide_eq_true_eq]at h
 exact⟨h.1,fun i hi=>List.all_eq_true.1 h.2 _ (dC (d:=PK0) hi)⟩
theorem C2 {a:List Itm} (h:F6 a=true):a.length≤9223372036854775807∧ ∀i,i<a.length→(a.getD i bM).sm=true:=by
 simp only[F6,Bool.and_eq_true,rpS,decide_eq_true_eq]at h
 exact⟨h.1,fun i hi=>List.all_eq_true.1 h.2 _ (dC (d:=bM) hi)⟩
def PK.md (x:PK):Bool:=decide (x.2.length≤274877906944)&&(decide (x.3.length≤274877906944)&&(decide (x.4.length≤274877906944)&&decide (x.7.length≤274877906944)))
theorem PK.md_iff {x:PK}:x.md=true↔decide (x.2.length≤274877906944)=true∧decide (x.3.length≤274877906944)=true∧decide (x.4.length≤274877906944)=true∧decide (x.7.length≤274877906944)=true:=by
 unfold PK.md;simp only[Bool.and_eq_true,rpS]
theorem a9L (a:List PK) (l:Int) (h0:0≤l) (h1:l≤1048576) (hn:a.length≤274877906944) (h:uX a=true):match cG (β:=Int) (γ:=Int) (fun i l=>bif decide (szF l (a.getD i PK0).zs<0)then .inr (szF l (a.getD i PK0).zs)else .inl (szF l (a.getD i PK0).zs)) a.length 0 l with
  |.inl c=>aP none Tryz.prog 0 (.block 0 (.loop (aC 0 (aB lE)))) (sI a l 0) fun e t=>e=.normal∧t=OE a c
  |.inr c=>aP none Tryz.prog 0 (.block 0 (.loop (aC 0 (aB lE)))) (sI a l 0) fun e t=>e=.ret∧t=OK a c:=by
 have hk:=(C3 h).2
 have g:=aP.countE (ro:=none) hT kM bE (m:=0) (id:=0) (body:=aC 0 (aB lE)) (β:=Int) (γ:=Int) a.length (fun _ l=>0≤l∧l≤1048576) (fun i l=>sI a l i) (fun l=>OE a l) (fun l=>OK a l) .ret (.inr rfl)
  (fun i l=>bif decide (szF l (a.getD i PK0).zs<0)then .inr (szF l (a.getD i PK0).zs)else .inl (szF l (a.getD i PK0).zs)) (aE lE 0) (aG lE 0) (fun _ _=>[]) (fun _ _ _ _=>aL.nil) (fun i l hi hl=> ?_) (fun l _=>⟨_,_,⟨_,_,WT a l a.length,by simp,by simp⟩⟩) l ⟨h0,h1⟩
 ·split<;>rename_i hq<;>rw[hq]at g<;>exact g
 ·obtain⟨q1,q2,q3,q4⟩:=PK.sm_iff.1 (hk i hi)
  have hl1:=decide_eq_true hl.1
  have hl2:=decide_eq_true hl.2
  cases hc:decide (szF l (a.getD i PK0).zs<0)with
  |true=>
   have e:=WR a l i
   rw[Int.toNat_natCast]at e
   have hc':decide (szF l ((a.getD i PK0).2.length+(a.getD i PK0).3.length+(a.getD i PK0).4.length+(a.getD i PK0).7.length)<0)=true:=hc
   exact .inr ⟨_,rfl,_,_,⟨_,_,e,by simp only[q1,q2,q3,q4,hl1,hl2,hc',decide_true,rpS,decide_false,beq_self_eq_true,bne_self_eq_false,Bool.not_true,Bool.not_false,Bool.not_not,cond_true,cond_false,Bool.true_and,Bool.and_true,Bool.false_and,Bool.and_false,Bool.or_true,Bool.true_or,Bool.or_false,Bool.false_or,Bool.and_eq_true,Bool.not_eq_true',decide_eq_true_eq,decide_eq_false_iff_not,true_and,and_true]<;>omega,by simp⟩⟩
  |false=>
   have e:=WS a l i
   rw[aF (i:=(i:Int)+1) (by omega) (by omega),Int.toNat_natCast]at e
   have hc':decide (szF l ((a.getD i PK0).2.length+(a.getD i PK0).3.length+(a.getD i PK0).4.length+(a.getD i PK0).7.length)<0)=false:=hc
   refine .inl ⟨_,rfl, ?_,_,_,⟨_,_,e,by simp only[q1,q2,q3,q4,hl1,hl2,hc',decide_true,rpS,decide_false,beq_self_eq_true,bne_self_eq_false,Bool.not_true,Bool.not_false,Bool.not_not,cond_true,cond_false,Bool.true_and,Bool.and_true,Bool.false_and,Bool.and_false,Bool.or_true,Bool.true_or,Bool.or_false,Bool.false_or,Bool.and_eq_true,Bool.not_eq_true',decide_eq_true_eq,decide_eq_false_iff_not,true_and,and_true]<;>omega,by simp⟩⟩
   have hd:=of_decide_eq_false hc
   by_cases c:l-((a.getD i PK0).zs:Nat)<0
   ·rw[aC1 c]at hd;omega
   ·rw[aC2 c];omega
def KM:aO:=fun args h=>
 match args,h with
 |[.c (.view _ (.typ .pk a) n 8 _),.c (.int .i64 l)],[]=>
  some (.c (.int .i64 (szF l (hC a))),[],[decide (n=a.length),uX a,decide (0≤l),decide (l≤1048576)])
 |_,_=>none
theorem aBO:aT Tryz.prog 154 KM:=by
 intro args h res h' o hnorm he ho
 unfold KM at he
 split at he
 case h_2=>cases he
 rename_i nl a n cap l
 simp only[Option.some.injEq,Prod.mk.injEq]at he
 obtain⟨rfl,rfl,rfl⟩:=he
 simp only[List.mem_cons,List.not_mem_nil,or_false,forall_eq_or_imp,forall_eq,decide_eq_true_eq]at ho
 obtain⟨o1,o2,o3,o4⟩:=ho
 simp only[b8,AV.norm,bA,aI.norm,Con.size,List.cons.injEq,AV.c.injEq,AV.agg.injEq,aI.view.injEq,aN,true_and,and_true]at hnorm
 obtain⟨rfl,_,rfl⟩:=hnorm
 subst o1
 have hn:=(C3 o2).1
 unfold hC
 by_cases c:l-(a.length:Int)<0
 ·rw[aC1 (by omega)]
  exact cU kM (ZA a l 0 []) (by kernel_rfl) (by kernel_rfl) rfl (by rw[cQ (by omega) (by omega),decide_eq_true c];rfl)
 ·have g:=a9L a (l-(a.length:Int)) (by omega) (by omega) (by omega) o2
  have k:=GS (g:=fun i=>(a.getD i PK0).zs) a.length 0 (l-(a.length:Int)) (by omega)
  generalize cG (β:=Int) (γ:=Int) (fun i l=>bif decide (szF l (a.getD i PK0).zs<0)then .inr (szF l (a.getD i PK0).zs)else .inl (szF l (a.getD i PK0).zs)) a.length 0 (l-(a.length:Int))=r at g k
  rcases r with r|r
  ·obtain⟨k1,k2⟩:=k
   rw[aC2 (by omega),show l-((a.length+nZ (fun i=>(a.getD i PK0).zs) a.length 0:Nat):Int)=r from by omega]
   have e:=ZB a l r
   rw[aF (by omega) (by omega)]at e
   exact bW kM e (by kernel_rfl) (by kernel_rfl) (by kernel_rfl) g (by simp) (by rw[decide_eq_false c];rfl)
  ·have k:l-(a.length:Int)-(nZ (fun i=>(a.getD i PK0).zs) a.length 0:Nat)<0:=k
   rw[aC1 (by omega)]
   have e:=ZH a l r
   rw[aF (by omega) (by omega)]at e
   exact bW kM e (by kernel_rfl) (by kernel_rfl) (by kernel_rfl) g (by simp) (by rw[decide_eq_false c];rfl)
theorem a9P (a:List PK) (hn:a.length≤274877906944) (hk: ∀i,i<a.length→(a.getD i PK0).md=true):aP none Tryz.prog 0 (.block 0 (.loop (aC 0 (aB tF)))) (DS a (List.replicate a.length PK0) 0) fun e t=>e=.normal∧t=OG a a:=by
 have key:=aP.count (ro:=none) hT kM bE (m:=0) (id:=0) (body:=aC 0 (aB tF)) (β:=List PK) a.length (fun _ c=>c.length=a.length) (fun i c=>DS a c i) (fun c=>OG a c) (fun i c=>c.set i (a.getD i PK0)) (aE tF 0) (aG tF 0) (fun _ _=>[]) (fun _ _ _ _=>aL.nil) (fun i c hi hc=>⟨by rw[List.length_set];exact hc, ?_⟩) (fun c _=>⟨_,_,⟨_,_,WY a c a.length,by simp,by simp⟩⟩) (List.replicate a.length PK0) (by simp)
 ·have er:bI (fun i c=>c.set i (a.getD i PK0)) a.length 0 (List.replicate a.length PK0)=a:=aF3 (d:=PK0) (by simp) (fun _ _=>rfl)
  rw[er]at key
  exact key
 ·obtain⟨q1,q2,q3,q4⟩:=PK.md_iff.1 (hk i hi)
  have e:=WX a c i
  rw[aF (i:=(i:Int)+1) (by omega) (by omega),Int.toNat_natCast]at e
  exact⟨_,_,⟨_,_,e,by simp only[hc,q1,q2,q3,q4,decide_true,rpS,decide_false,beq_self_eq_true,bne_self_eq_false,Bool.not_true,Bool.not_false,Bool.not_not,cond_true,cond_false,Bool.true_and,Bool.and_true,Bool.false_and,Bool.and_false,Bool.or_true,Bool.true_or,Bool.or_false,Bool.false_or,Bool.and_eq_true,Bool.not_eq_true',decide_eq_true_eq,decide_eq_false_iff_not,true_and,and_true]<;>omega,by simp⟩⟩
theorem a9H (a:List PK) (hn:a.length≤274877906944) (hk: ∀i,i<a.length→(a.getD i PK0).md=true):aP none Tryz.prog 0 (.block 0 (.loop (aC 0 (aB tD)))) (DQ a 0) fun e t=>e=.normal∧t=OC a:=by
 refine aP.count (ro:=none) hT kM bE (m:=0) (id:=0) (body:=aC 0 (aB tD)) (β:=Unit) a.length (fun _ _=>True) (fun i _=>DQ a i) (fun _=>OC a) (fun _ _=>()) (aE tD 0) (aG tD 0) (fun _ _=>[]) (fun _ _ _ _=>aL.nil) (fun i c hi hc=>⟨trivial, ?_⟩) (fun c _=>⟨_,_,⟨_,_,WN a a.length,by simp,by simp⟩⟩) () trivial
 obtain⟨q1,q2,q3,q4⟩:=PK.md_iff.1 (hk i hi)
 have e:=WM a i
 rw[aF (i:=(i:Int)+1) (by omega) (by omega),Int.toNat_natCast]at e
 exact⟨_,_,⟨_,_,e,by simp only[eq_self,q1,q2,q3,q4,decide_true,rpS,decide_false,beq_self_eq_true,bne_self_eq_false,Bool.not_true,Bool.not_false,Bool.not_not,cond_true,cond_false,Bool.true_and,Bool.and_true,Bool.false_and,Bool.and_false,Bool.or_true,Bool.true_or,Bool.or_false,Bool.false_or,Bool.and_eq_true,Bool.not_eq_true',decide_eq_true_eq,decide_eq_false_iff_not,true_and,and_true]<;>omega,by simp⟩⟩
def KH:aO:=fun args h=>
 match args,h with
 |[.c (.view _ (.typ .pk a) n 8 _)],[]=>
  some (.c (.sl 0 0 a.length 8 none),[.live (.typ .pk a)],[decide (n=a.length),decide (a.length≤274877906944),a.all PK.md])
 |_,_=>none
theorem aBQ:aT Tryz.prog 165 KH:=by
 intro args h res h' o hnorm he ho
 unfold KH at he
 split at he
 case h_2=>cases he
 rename_i nl a n cap
 simp only[Option.some.injEq,Prod.mk.injEq]at he
 obtain⟨rfl,rfl,rfl⟩:=he
 simp only[List.mem_cons,List.not_mem_nil,or_false,forall_eq_or_imp,forall_eq,decide_eq_true_eq]at ho
 obtain⟨o1,o2,o3⟩:=ho
 simp only[b8,AV.norm,bA,aI.norm,Con.size,List.cons.injEq,AV.c.injEq,AV.agg.injEq,aI.view.injEq,aN,true_and,and_true]at hnorm
 obtain⟨rfl,_,rfl⟩:=hnorm
 subst o1
 have g:=a9P a o2 (fun i hi=>List.all_eq_true.1 o3 _ (dC hi))
 exact bW kM (ZD a) (by kernel_rfl) (by kernel_rfl) (by kernel_rfl) g (by simp) (by simp only[decide_true,rpS,decide_false,beq_self_eq_true,bne_self_eq_false,Bool.not_true,Bool.not_false,Bool.not_not,cond_true,cond_false,Bool.true_and,Bool.and_true,Bool.false_and,Bool.and_false,Bool.or_true,Bool.true_or,Bool.or_false,Bool.false_or,Bool.and_eq_true,Bool.not_eq_true',decide_eq_true_eq,decide_eq_false_iff_not,true_and,and_true];omega)
def JZ:aO:=fun args h=>
 match args,h with
 |[.c (.view _ (.typ .pk a) n 8 _),.c (.view _ (.typ .pk b) n2 8 _)],[]=>
  some (.c (.bool true),[],[decide (n=a.length),decide (a.length≤274877906944),a.all PK.md,decide (n2=b.length),decide (a=b)])
 |_,_=>none
theorem aBL:aT Tryz.prog 170 JZ:=by
 intro args h res h' o hnorm he ho
 unfold JZ at he
 split at he
 case h_2=>cases he
 rename_i nl a n cap nl2 b n2 cap2
 simp only[Option.some.injEq,Prod.mk.injEq]at he
 obtain⟨rfl,rfl,rfl⟩:=he
 simp only[List.mem_cons,List.not_mem_nil,or_false,forall_eq_or_imp,forall_eq,decide_eq_true_eq]at ho
 obtain⟨o1,o2,o3,o4,o5⟩:=ho
 simp only[b8,AV.norm,bA,aI.norm,Con.size,List.cons.injEq,AV.c.injEq,AV.agg.injEq,aI.view.injEq,aN,true_and,and_true]at hnorm
 obtain⟨⟨rfl,_,rfl⟩,⟨rfl,_,rfl⟩⟩:=hnorm
 subst o1
 subst o4
 subst o5
 have g:=a9H a o2 (fun i hi=>List.all_eq_true.1 o3 _ (dC hi))
 exact bW kM (Z7 a) (by kernel_rfl) (by kernel_rfl) (by kernel_rfl) g (by simp) (by simp)
end
section
noncomputable def H2:List aZ:=[⟨154,[],nm KM⟩,⟨165,[],nm KH⟩,⟨170,[],nm JZ⟩]++i9
theorem a05:aA Tryz.prog H2:=by
 refine aA.append ?_ a04
 intro e he
 simp only[List.mem_cons,List.not_mem_nil,or_false]at he
 rcases he with rfl|rfl|rfl
 ·exact aBO.ok
 ·exact aBQ.ok
 ·exact aBL.ok
theorem ND:bL Tryz.prog (aH H2):=aQ a05
def FJ (nm:ByteArray) (ks:List PK) (l:Int) (lcv:List (Nat×LC)):=bt2 (aJ tt (aH H2) (lcv) 100 Tryz.f107 [.agg [.str nm,.view none (.typ .pk ks) ks.length 8 none],.c (.int .i64 l)] []) (l-(↑nm.size:Int)) (P:=fun q0 q1=>q0 [(0,true)]=
  some ⟨.c (.int .i64 (-1)),[],((decide (IntKind.i64.wrap q1<0))&&true),[]⟩∧q0 [(0,false),(0,true)]=
  some ⟨.c (.int .i64 (-1)),[],(!decide (IntKind.i64.wrap q1<0)&&(decide (ks.length=ks.length)&&(uX ks&&(decide (0≤IntKind.i64.wrap q1)&&(decide (IntKind.i64.wrap q1≤1048576)&&((decide (szF (IntKind.i64.wrap q1) (hC ks)<0))&&true)))))),[]⟩∧q0 [(0,false),(0,false)]=
  some ⟨.c (.int .i64 (szF (IntKind.i64.wrap q1) (hC ks))),[],(!decide (IntKind.i64.wrap q1<0)&&(decide (ks.length=ks.length)&&(uX ks&&(decide (0≤IntKind.i64.wrap q1)&&(decide (IntKind.i64.wrap q1≤1048576)&&((!decide (szF (IntKind.i64.wrap q1) (hC ks)<0))&&true)))))),[]⟩) ⟨by kernel_rfl,by kernel_rfl,by kernel_rfl⟩
def a7J (nm:ByteArray) (ks:List PK) (l:Int) (lcv:List (Nat×LC)):=(FJ nm ks l lcv).1
def a7K (nm:ByteArray) (ks:List PK) (l:Int) (lcv:List (Nat×LC)):=(FJ nm ks l lcv).2.1
def a7L (nm:ByteArray) (ks:List PK) (l:Int) (lcv:List (Nat×LC)):=(FJ nm ks l lcv).2.2
def KO:aO:=fun args h=>
 match args,h with
 |[.agg [.str nm,.view _ (.typ .pk ks) n 8 _],.c (.int .i64 l)],[]=>
  some (.c (.int .i64 (szF l (nm.size+hC ks))),[],[decide (n=ks.length),uX ks,decide (nm.size≤9223372036854775807),decide (0≤l),decide (l≤1048576)])
 |_,_=>none
theorem mSW:aT Tryz.prog 107 KO:=by
 intro args h res h' o hnorm he ho
 unfold KO at he
 split at he
 case h_2=>cases he
 rename_i nm nl ks n cap l
 simp only[Option.some.injEq,Prod.mk.injEq]at he
 obtain⟨rfl,rfl,rfl⟩:=he
 simp only[List.mem_cons,List.not_mem_nil,or_false,forall_eq_or_imp,forall_eq,decide_eq_true_eq]at ho
 obtain⟨o1,o2,o3,o4,o5⟩:=ho
 simp only[b8,AV.norm,bA,aI.norm,Con.size,List.cons.injEq,AV.c.injEq,AV.agg.injEq,aI.view.injEq,aN,true_and,and_true]at hnorm
 obtain⟨rfl,_,rfl⟩:=hnorm
 subst o1
 by_cases h1:l-(nm.size:Int)<0
 ·rw[aC1 (n:=nm.size+hC ks) (by omega)]
  have e:=a7J nm ks l []
  rw[cQ (by omega) (by omega)]at e
  exact cU ND e (by kernel_rfl) (by kernel_rfl) rfl (by simp only[decide_eq_true h1,decide_true,rpS,decide_false,beq_self_eq_true,bne_self_eq_false,Bool.not_true,Bool.not_false,Bool.not_not,cond_true,cond_false,Bool.true_and,Bool.and_true,Bool.false_and,Bool.and_false,Bool.or_true,Bool.true_or,Bool.or_false,Bool.false_or,Bool.and_eq_true,Bool.not_eq_true',decide_eq_true_eq,decide_eq_false_iff_not,true_and,and_true]<;>omega)
 ·by_cases h2:l-(nm.size:Int)-(hC ks:Int)<0
  ·rw[aC1 (n:=nm.size+hC ks) (by omega)]
   have e:=a7K nm ks l []
   rw[cQ (by omega) (by omega),aC1 h2]at e
   exact cU ND e (by kernel_rfl) (by kernel_rfl) rfl (by simp only[decide_eq_false h1,o2,decide_true,rpS,decide_false,beq_self_eq_true,bne_self_eq_false,Bool.not_true,Bool.not_false,Bool.not_not,cond_true,cond_false,Bool.true_and,Bool.and_true,Bool.false_and,Bool.and_false,Bool.or_true,Bool.true_or,Bool.or_false,Bool.false_or,Bool.and_eq_true,Bool.not_eq_true',decide_eq_true_eq,decide_eq_false_iff_not,true_and,and_true]<;>omega)
  ·have e:=a7L nm ks l []
   rw[cQ (by omega) (by omega),aC2 h2]at e
   rw[aC2 (n:=nm.size+hC ks) (by omega),show l-((nm.size+hC ks:Nat):Int)=l-(nm.size:Int)-(hC ks:Int)from by omega]
   exact cU ND e (by kernel_rfl) (by kernel_rfl) rfl (by simp only[decide_eq_false h1,decide_eq_false h2,o2,decide_true,rpS,decide_false,beq_self_eq_true,bne_self_eq_false,Bool.not_true,Bool.not_false,Bool.not_not,cond_true,cond_false,Bool.true_and,Bool.and_true,Bool.false_and,Bool.and_false,Bool.or_true,Bool.true_or,Bool.or_false,Bool.false_or,Bool.and_eq_true,Bool.not_eq_true',decide_eq_true_eq,decide_eq_false_iff_not,true_and,and_true]<;>omega)
noncomputable def sM:List aZ:=[⟨107,[],nm KO⟩,⟨117,[],dW tt (aH H2) Tryz.f117 []⟩,⟨121,[],dW tt (aH H2) Tryz.f121 [(0,false),(0,false)]⟩]++H2
theorem a06:aA Tryz.prog sM:=by
 refine aA.append ?_ a05
 intro e he
 simp only[List.mem_cons,List.not_mem_nil,or_false]at he
 rcases he with rfl|rfl|rfl
 ·exact mSW.ok
 ·exact cJ hT ND bE [] (by kernel_rfl) (by kernel_rfl)
 ·exact cJ hT ND bE [(0,false),(0,false)] (by kernel_rfl) (by kernel_rfl)
theorem CC:bL Tryz.prog (aH sM):=aQ a06
noncomputable abbrev lD:=Tryz.f54
noncomputable def sH (a:List Itm) (l i:Int):St:=aS lD.ntmps [(0,.c (.view none (.typ .itm a) a.length 2 none)),(1,.c (.int .i64 l)),(5,.c (.int .i64 i))] []
noncomputable def OD (a:List Itm) (l:Int):St:=aS lD.ntmps [(1,.c (.int .i64 l))] []
noncomputable def OJ (a:List Itm) (l:Int):St:=aS lD.ntmps [(1,.c (.int .i64 l)),(4,.c (.int .i64 (-1)))] []
def zE (a:List Itm) (l i:Int):=bt5 (a.getD i.toNat bM) (aM tt (aH sM) ([]) 0 100 (aC 0 (aB lD)) (sH a l i)) (aK 0 (aE lD 0) (aG lD 0)) (↑a.length:Int) (decide (i.toNat<a.length)&&true) (P:=fun q0 q1 q2 q3 q4=>q2 (q1 [(0,true),(0,true)])=
  some (.ret,(decide (i<q3)&&(decide (0≤i)&&(decide (i<q3)&&(q4&&(decide (q0.ks.length=q0.2.length)&&(uX q0.2&&(decide (q0.1.size≤9223372036854775807)&&(decide (0≤l)&&(decide (l≤1048576)&&((decide (szF l (q0.1.size+hC q0.2)<0))&&true)))))))))),[],OJ a (szF l (q0.1.size+hC q0.2)))∧q2 (q1 [(0,true),(0,false)])=
  some (.normal,(decide (i<q3)&&(decide (0≤i)&&(decide (i<q3)&&(q4&&(decide (q0.ks.length=q0.2.length)&&(uX q0.2&&(decide (q0.1.size≤9223372036854775807)&&(decide (0≤l)&&(decide (l≤1048576)&&((!decide (szF l (q0.1.size+hC q0.2)<0))&&true)))))))))),[],sH a (szF l (q0.1.size+hC q0.2)) (IntKind.i64.wrap (i+1)))∧q2 (q1 [(0,false)])=
  some (.exit 0,((!decide (i<q3))&&true),[],OD a l)) ⟨by kernel_rfl,by kernel_rfl,by kernel_rfl⟩
def WO (a:List Itm) (l i:Int):=(zE a l i).1
def WP (a:List Itm) (l i:Int):=(zE a l i).2.1
def WQ (a:List Itm) (l i:Int):=(zE a l i).2.2
theorem Z8 (a:List Itm) (l k:Int) (lcv:List (Nat×LC)):aJ tt (aH sM) (lcv) 100 lD [.c (.view none (.typ .itm a) a.length 2 none),.c (.int .i64 l)] [] [(0,true)]=
  some ⟨.c (.int .i64 (-1)),[],((decide (IntKind.i64.wrap (l-(↑a.length:Int))<0))&&true),[]⟩:=by kernel_rfl
def Z9 (a:List Itm) (l k:Int):=bt1 (IntKind.i64.wrap (l-(a.length:Int))) (P:=fun q0=>(aJ tt (aH sM) ([(0,⟨aE lD 0,sH a q0 0,.normal,OD a k⟩)]) 100 lD [.c (.view none (.typ .itm a) a.length 2 none),.c (.int .i64 l)] []) [(0,false)]=
  some ⟨.c (.int .i64 k),[],((!decide (IntKind.i64.wrap (l-(↑a.length:Int))<0))&&true),[sH a q0 0=sH a q0 0]⟩) (by kernel_rfl)
def ZG (a:List Itm) (l k:Int):=bt1 (IntKind.i64.wrap (l-(a.length:Int))) (P:=fun q0=>(aJ tt (aH sM) ([(0,⟨aE lD 0,sH a q0 0,.ret,OJ a k⟩)]) 100 lD [.c (.view none (.typ .itm a) a.length 2 none),.c (.int .i64 l)] []) [(0,false)]=
  some ⟨.c (.int .i64 (-1)),[],((!decide (IntKind.i64.wrap (l-(↑a.length:Int))<0))&&true),[sH a q0 0=sH a q0 0]⟩) (by kernel_rfl)
noncomputable abbrev tE:=Tryz.f59
noncomputable def DR (a:List Itm) (c:List Itm) (i:Int):St:=aS tE.ntmps [(0,.c (.view none (.typ .itm a) a.length 2 none)),(3,.c (.sl 0 0 a.length 2 none)),(4,.c (.int .i64 i))] [.live (.typ .itm c)]
noncomputable def OF (a:List Itm) (c:List Itm):St:=aS tE.ntmps [(3,.c (.sl 0 0 a.length 2 none))] [.live (.typ .itm c)]
def GO (a:List Itm) (c:List Itm) (i:Int):=bt4 (a.getD i.toNat bM) (aM tt (aH sM) ([]) 0 100 (aC 0 (aB tE)) (DR a c i)) (↑a.length:Int) (aK 0 (aE tE 0) (aG tE 0)) (P:=fun q0 q1 q2 q3=>q3 (q1 [(0,true)])=
  some (.normal,(decide (i<q2)&&(decide (0≤i)&&(decide (i<q2)&&((decide (i.toNat<a.length)&&true)&&((decide (q0.ks.length=q0.2.length)&&(decide (q0.2.length≤274877906944)&&(q0.2.all PK.md&&true)))&&(decide (0≤i)&&(decide (i<q2)&&(decide (q0.2.length*8=q0.2.length*8)&&((decide (i.toNat<c.length)&&true)&&true))))))))),[],DR a (c.set i.toNat ((fun ks=> {nm:=q0.1,ks:=ks}) q0.2)) (IntKind.i64.wrap (i+1)))∧q3 (q1 [(0,false)])=
  some (.exit 0,((!decide (i<q2))&&true),[],OF a c)) ⟨by kernel_rfl,by kernel_rfl⟩
def WV (a:List Itm) (c:List Itm) (i:Int):=(GO a c i).1
def WW (a:List Itm) (c:List Itm) (i:Int):=(GO a c i).2
def ZC (a:List Itm):=bt2 (List.replicate a.length bM) (↑a.length:Int) (P:=fun q0 q1=>(aJ tt (aH sM) ([(0,⟨aE tE 0,DR a q0 0,.normal,OF a a⟩)]) 100 tE [.c (.view none (.typ .itm a) a.length 2 none)] []) []=
  some ⟨.c (.sl 0 0 a.length 2 none),[.live (.typ Ty.itm a)],(decide (q1≤q1)&&((decide (q1≤274877906944))&&true)),[DR a q0 0=DR a q0 0]⟩) (by kernel_rfl)
noncomputable abbrev tC:=Tryz.f64
noncomputable def DP (a:List Itm) (i:Int):St:=aS tC.ntmps [(0,.c (.view none (.typ .itm a) a.length 2 none)),(1,.c (.view none (.typ .itm a) a.length 2 none)),(5,.c (.int .i64 i))] []
noncomputable def OB (a:List Itm):St:=aS tC.ntmps [] []
def GM (a:List Itm) (i:Int):=bt5 (a.getD i.toNat bM) (aM tt (aH sM) ([]) 0 100 (aC 0 (aB tC)) (DP a i)) (↑a.length:Int) (aK 0 (aE tC 0) (aG tC 0)) (decide (i.toNat<a.length)&&true) (P:=fun q0 q1 q2 q3 q4=>q3 (q1 [(0,true)])=
  some (.normal,(decide (i<q2)&&(decide (0≤i)&&(decide (i<q2)&&(q4&&(decide (0≤i)&&(decide (i<q2)&&(q4&&((!!hZ q0.1 q0.1&&(decide (q0.ks.length=q0.2.length)&&(decide (q0.2.length≤274877906944)&&(q0.2.all PK.md&&(decide (q0.ks.length=q0.2.length)&&(decide (q0.2=q0.2)&&true))))))&&true)))))))),[],DP a (IntKind.i64.wrap (i+1)))∧q3 (q1 [(0,false)])=
  some (.exit 0,((!decide (i<q2))&&true),[],OB a)) ⟨by kernel_rfl,by kernel_rfl⟩
def WK (a:List Itm) (i:Int):=(GM a i).1
def WL (a:List Itm) (i:Int):=(GM a i).2
theorem Z6 (a:List Itm):aJ tt (aH sM) ([(0,⟨aE tC 0,DP a 0,.normal,OB a⟩)]) 100 tC [.c (.view none (.typ .itm a) a.length 2 none),.c (.view none (.typ .itm a) a.length 2 none)] [] [(0,false)]=
  some ⟨.c (.bool true),[],((!(↑a.length:Int)!=(↑a.length:Int))&&true),[DP a 0=DP a 0]⟩:=by kernel_rfl
theorem Itm.sm_iff {x:Itm}:x.sm=true↔decide (x.1.size≤9223372036854775807)=true∧uX x.2=true:=by
 unfold Itm.sm;simp only[Bool.and_eq_true,rpS]
def Itm.md (x:Itm):Bool:=decide (x.2.length≤274877906944)&&x.2.all PK.md
theorem Itm.md_iff {x:Itm}:x.md=true↔decide (x.2.length≤274877906944)=true∧x.2.all PK.md=true:=by
 unfold Itm.md;simp only[Bool.and_eq_true,rpS]
theorem v7 (x:ByteArray):hZ x x=true:=by unfold hZ;simp
theorem a9K (a:List Itm) (l:Int) (h0:0≤l) (h1:l≤1048576) (hn:a.length≤274877906944) (h:F6 a=true):match cG (β:=Int) (γ:=Int) (fun i l=>bif decide (szF l (a.getD i bM).zs<0)then .inr (szF l (a.getD i bM).zs)else .inl (szF l (a.getD i bM).zs)) a.length 0 l with
  |.inl c=>aP none Tryz.prog 0 (.block 0 (.loop (aC 0 (aB lD)))) (sH a l 0) fun e t=>e=.normal∧t=OD a c
  |.inr c=>aP none Tryz.prog 0 (.block 0 (.loop (aC 0 (aB lD)))) (sH a l 0) fun e t=>e=.ret∧t=OJ a c:=by
 have hk:=(C2 h).2
 have g:=aP.countE (ro:=none) hT CC bE (m:=0) (id:=0) (body:=aC 0 (aB lD)) (β:=Int) (γ:=Int) a.length (fun _ l=>0≤l∧l≤1048576) (fun i l=>sH a l i) (fun l=>OD a l) (fun l=>OJ a l) .ret (.inr rfl)
  (fun i l=>bif decide (szF l (a.getD i bM).zs<0)then .inr (szF l (a.getD i bM).zs)else .inl (szF l (a.getD i bM).zs)) (aE lD 0) (aG lD 0) (fun _ _=>[]) (fun _ _ _ _=>aL.nil) (fun i l hi hl=> ?_) (fun l _=>⟨_,_,⟨_,_,WQ a l a.length,by simp,by simp⟩⟩) l ⟨h0,h1⟩
 ·split<;>rename_i hq<;>rw[hq]at g<;>exact g
 ·obtain⟨q1,q2⟩:=Itm.sm_iff.1 (hk i hi)
  have hl1:=decide_eq_true hl.1
  have hl2:=decide_eq_true hl.2
  cases hc:decide (szF l (a.getD i bM).zs<0)with
  |true=>
   have e:=WO a l i
   rw[Int.toNat_natCast]at e
   have hc':decide (szF l ((a.getD i bM).1.size+hC (a.getD i bM).2)<0)=true:=hc
   exact .inr ⟨_,rfl,_,_,⟨_,_,e,by simp only[q1,q2,hl1,hl2,hc',decide_true,rpS,decide_false,beq_self_eq_true,bne_self_eq_false,Bool.not_true,Bool.not_false,Bool.not_not,cond_true,cond_false,Bool.true_and,Bool.and_true,Bool.false_and,Bool.and_false,Bool.or_true,Bool.true_or,Bool.or_false,Bool.false_or,Bool.and_eq_true,Bool.not_eq_true',decide_eq_true_eq,decide_eq_false_iff_not,true_and,and_true]<;>omega,by simp⟩⟩
  |false=>
   have e:=WP a l i
   rw[aF (i:=(i:Int)+1) (by omega) (by omega),Int.toNat_natCast]at e
   have hc':decide (szF l ((a.getD i bM).1.size+hC (a.getD i bM).2)<0)=false:=hc
   refine .inl ⟨_,rfl, ?_,_,_,⟨_,_,e,by simp only[q1,q2,hl1,hl2,hc',decide_true,rpS,decide_false,beq_self_eq_true,bne_self_eq_false,Bool.not_true,Bool.not_false,Bool.not_not,cond_true,cond_false,Bool.true_and,Bool.and_true,Bool.false_and,Bool.and_false,Bool.or_true,Bool.true_or,Bool.or_false,Bool.false_or,Bool.and_eq_true,Bool.not_eq_true',decide_eq_true_eq,decide_eq_false_iff_not,true_and,and_true]<;>omega,by simp⟩⟩
   have hd:=of_decide_eq_false hc
   by_cases c:l-((a.getD i bM).zs:Nat)<0
   ·rw[aC1 c]at hd;omega
   ·rw[aC2 c];omega
def KL:aO:=fun args h=>
 match args,h with
 |[.c (.view _ (.typ .itm a) n 2 _),.c (.int .i64 l)],[]=>
  some (.c (.int .i64 (szF l (rF a))),[],[decide (n=a.length),F6 a,decide (0≤l),decide (l≤1048576)])
 |_,_=>none
theorem aBN:aT Tryz.prog 54 KL:=by
 intro args h res h' o hnorm he ho
 unfold KL at he
 split at he
 case h_2=>cases he
 rename_i nl a n cap l
 simp only[Option.some.injEq,Prod.mk.injEq]at he
 obtain⟨rfl,rfl,rfl⟩:=he
 simp only[List.mem_cons,List.not_mem_nil,or_false,forall_eq_or_imp,forall_eq,decide_eq_true_eq]at ho
 obtain⟨o1,o2,o3,o4⟩:=ho
 simp only[b8,AV.norm,bA,aI.norm,Con.size,List.cons.injEq,AV.c.injEq,AV.agg.injEq,aI.view.injEq,aN,true_and,and_true]at hnorm
 obtain⟨rfl,_,rfl⟩:=hnorm
 subst o1
 have hn:=(C2 o2).1
 unfold rF
 by_cases c:l-(a.length:Int)<0
 ·rw[aC1 (by omega)]
  exact cU CC (Z8 a l 0 []) (by kernel_rfl) (by kernel_rfl) rfl (by rw[cQ (by omega) (by omega),decide_eq_true c];rfl)
 ·have g:=a9K a (l-(a.length:Int)) (by omega) (by omega) (by omega) o2
  have k:=GS (g:=fun i=>(a.getD i bM).zs) a.length 0 (l-(a.length:Int)) (by omega)
  generalize cG (β:=Int) (γ:=Int) (fun i l=>bif decide (szF l (a.getD i bM).zs<0)then .inr (szF l (a.getD i bM).zs)else .inl (szF l (a.getD i bM).zs)) a.length 0 (l-(a.length:Int))=r at g k
  rcases r with r|r
  ·obtain⟨k1,k2⟩:=k
   rw[aC2 (by omega),show l-((a.length+nZ (fun i=>(a.getD i bM).zs) a.length 0:Nat):Int)=r from by omega]
   have e:=Z9 a l r
   rw[aF (by omega) (by omega)]at e
   exact bW CC e (by kernel_rfl) (by kernel_rfl) (by kernel_rfl) g (by simp) (by rw[decide_eq_false c];rfl)
  ·have k:l-(a.length:Int)-(nZ (fun i=>(a.getD i bM).zs) a.length 0:Nat)<0:=k
   rw[aC1 (by omega)]
   have e:=ZG a l r
   rw[aF (by omega) (by omega)]at e
   exact bW CC e (by kernel_rfl) (by kernel_rfl) (by kernel_rfl) g (by simp) (by rw[decide_eq_false c];rfl)
theorem a9O (a:List Itm) (hn:a.length≤274877906944) (hk: ∀i,i<a.length→(a.getD i bM).md=true):aP none Tryz.prog 0 (.block 0 (.loop (aC 0 (aB tE)))) (DR a (List.replicate a.length bM) 0) fun e t=>e=.normal∧t=OF a a:=by
 have key:=aP.count (ro:=none) hT CC bE (m:=0) (id:=0) (body:=aC 0 (aB tE)) (β:=List Itm) a.length (fun _ c=>c.length=a.length) (fun i c=>DR a c i) (fun c=>OF a c) (fun i c=>c.set i (a.getD i bM)) (aE tE 0) (aG tE 0) (fun _ _=>[]) (fun _ _ _ _=>aL.nil) (fun i c hi hc=>⟨by rw[List.length_set];exact hc, ?_⟩) (fun c _=>⟨_,_,⟨_,_,WW a c a.length,by simp,by simp⟩⟩) (List.replicate a.length bM) (by simp)
 ·have er:bI (fun i c=>c.set i (a.getD i bM)) a.length 0 (List.replicate a.length bM)=a:=aF3 (d:=bM) (by simp) (fun _ _=>rfl)
  rw[er]at key
  exact key
 ·obtain⟨q1,q2⟩:=Itm.md_iff.1 (hk i hi)
  have e:=WV a c i
  rw[aF (i:=(i:Int)+1) (by omega) (by omega),Int.toNat_natCast]at e
  exact⟨_,_,⟨_,_,e,by simp only[hc,q1,q2,v7,decide_true,rpS,decide_false,beq_self_eq_true,bne_self_eq_false,Bool.not_true,Bool.not_false,Bool.not_not,cond_true,cond_false,Bool.true_and,Bool.and_true,Bool.false_and,Bool.and_false,Bool.or_true,Bool.true_or,Bool.or_false,Bool.false_or,Bool.and_eq_true,Bool.not_eq_true',decide_eq_true_eq,decide_eq_false_iff_not,true_and,and_true]<;>omega,by simp⟩⟩
theorem a9G (a:List Itm) (hn:a.length≤274877906944) (hk: ∀i,i<a.length→(a.getD i bM).md=true):aP none Tryz.prog 0 (.block 0 (.loop (aC 0 (aB tC)))) (DP a 0) fun e t=>e=.normal∧t=OB a:=by
 refine aP.count (ro:=none) hT CC bE (m:=0) (id:=0) (body:=aC 0 (aB tC)) (β:=Unit) a.length (fun _ _=>True) (fun i _=>DP a i) (fun _=>OB a) (fun _ _=>()) (aE tC 0) (aG tC 0) (fun _ _=>[]) (fun _ _ _ _=>aL.nil) (fun i c hi hc=>⟨trivial, ?_⟩) (fun c _=>⟨_,_,⟨_,_,WL a a.length,by simp,by simp⟩⟩) () trivial
 obtain⟨q1,q2⟩:=Itm.md_iff.1 (hk i hi)
 have e:=WK a i
 rw[aF (i:=(i:Int)+1) (by omega) (by omega),Int.toNat_natCast]at e
 exact⟨_,_,⟨_,_,e,by simp only[eq_self,q1,q2,v7,decide_true,rpS,decide_false,beq_self_eq_true,bne_self_eq_false,Bool.not_true,Bool.not_false,Bool.not_not,cond_true,cond_false,Bool.true_and,Bool.and_true,Bool.false_and,Bool.and_false,Bool.or_true,Bool.true_or,Bool.or_false,Bool.false_or,Bool.and_eq_true,Bool.not_eq_true',decide_eq_true_eq,decide_eq_false_iff_not,true_and,and_true]<;>omega,by simp⟩⟩
def KG:aO:=fun args h=>
 match args,h with
 |[.c (.view _ (.typ .itm a) n 2 _)],[]=>
  some (.c (.sl 0 0 a.length 2 none),[.live (.typ .itm a)],[decide (n=a.length),decide (a.length≤274877906944),a.all Itm.md])
 |_,_=>none
theorem aBP:aT Tryz.prog 59 KG:=by
 intro args h res h' o hnorm he ho
 unfold KG at he
 split at he
 case h_2=>cases he
 rename_i nl a n cap
 simp only[Option.some.injEq,Prod.mk.injEq]at he
 obtain⟨rfl,rfl,rfl⟩:=he
 simp only[List.mem_cons,List.not_mem_nil,or_false,forall_eq_or_imp,forall_eq,decide_eq_true_eq]at ho
 obtain⟨o1,o2,o3⟩:=ho
 simp only[b8,AV.norm,bA,aI.norm,Con.size,List.cons.injEq,AV.c.injEq,AV.agg.injEq,aI.view.injEq,aN,true_and,and_true]at hnorm
 obtain⟨rfl,_,rfl⟩:=hnorm
 subst o1
 have g:=a9O a o2 (fun i hi=>List.all_eq_true.1 o3 _ (dC hi))
 exact bW CC (ZC a) (by kernel_rfl) (by kernel_rfl) (by kernel_rfl) g (by simp) (by simp only[decide_true,rpS,decide_false,beq_self_eq_true,bne_self_eq_false,Bool.not_true,Bool.not_false,Bool.not_not,cond_true,cond_false,Bool.true_and,Bool.and_true,Bool.false_and,Bool.and_false,Bool.or_true,Bool.true_or,Bool.or_false,Bool.false_or,Bool.and_eq_true,Bool.not_eq_true',decide_eq_true_eq,decide_eq_false_iff_not,true_and,and_true];omega)
def JY:aO:=fun args h=>
 match args,h with
 |[.c (.view _ (.typ .itm a) n 2 _),.c (.view _ (.typ .itm b) n2 2 _)],[]=>
  some (.c (.bool true),[],[decide (n=a.length),decide (a.length≤274877906944),a.all Itm.md,decide (n2=b.length),decide (a=b)])
 |_,_=>none
theorem aBK:aT Tryz.prog 64 JY:=by
 intro args h res h' o hnorm he ho
 unfold JY at he
 split at he
 case h_2=>cases he
 rename_i nl a n cap nl2 b n2 cap2
 simp only[Option.some.injEq,Prod.mk.injEq]at he
 obtain⟨rfl,rfl,rfl⟩:=he
 simp only[List.mem_cons,List.not_mem_nil,or_false,forall_eq_or_imp,forall_eq,decide_eq_true_eq]at ho
 obtain⟨o1,o2,o3,o4,o5⟩:=ho
 simp only[b8,AV.norm,bA,aI.norm,Con.size,List.cons.injEq,AV.c.injEq,AV.agg.injEq,aI.view.injEq,aN,true_and,and_true]at hnorm
 obtain⟨⟨rfl,_,rfl⟩,⟨rfl,_,rfl⟩⟩:=hnorm
 subst o1
 subst o4
 subst o5
 have g:=a9G a o2 (fun i hi=>List.all_eq_true.1 o3 _ (dC hi))
 exact bW CC (Z6 a) (by kernel_rfl) (by kernel_rfl) (by kernel_rfl) g (by simp) (by simp)
noncomputable def DV:List aZ:=[⟨54,[],nm KL⟩,⟨59,[],nm KG⟩,⟨64,[],nm JY⟩]++sM
theorem a07:aA Tryz.prog DV:=by
 refine aA.append ?_ a06
 intro e he
 simp only[List.mem_cons,List.not_mem_nil,or_false]at he
 rcases he with rfl|rfl|rfl
 ·exact aBN.ok
 ·exact aBP.ok
 ·exact aBK.ok
theorem R6:bL Tryz.prog (aH DV):=aQ a07
theorem a7H (q:Int) (its:List Itm) (l:Int) (lcv:List (Nat×LC)):aJ tt (aH DV) (lcv) 100 Tryz.f15 [.agg [.int .i64 q,.view none (.typ .itm its) its.length 2 none],.c (.int .i64 l)] [] [(0,true)]=
  some ⟨.c (.int .i64 (-1)),[],(decide (its.length=its.length)&&(F6 its&&(decide (0≤l)&&(decide (l≤1048576)&&((decide (szF l (rF its)<0))&&true))))),[]⟩:=by kernel_rfl
theorem a7I (q:Int) (its:List Itm) (l:Int) (lcv:List (Nat×LC)):aJ tt (aH DV) (lcv) 100 Tryz.f15 [.agg [.int .i64 q,.view none (.typ .itm its) its.length 2 none],.c (.int .i64 l)] [] [(0,false)]=
  some ⟨.c (.int .i64 (szF l (rF its))),[],(decide (its.length=its.length)&&(F6 its&&(decide (0≤l)&&(decide (l≤1048576)&&((!decide (szF l (rF its)<0))&&true))))),[]⟩:=by kernel_rfl
def KN:aO:=fun args h=>
 match args,h with
 |[.agg [.int .i64 q,.view _ (.typ .itm its) n 2 _],.c (.int .i64 l)],[]=>
  some (.c (.int .i64 (szF l (rF its))),[],[decide (n=its.length),F6 its,decide (0≤l),decide (l≤1048576)])
 |_,_=>none
theorem mSL:aT Tryz.prog 15 KN:=by
 intro args h res h' o hnorm he ho
 unfold KN at he
 split at he
 case h_2=>cases he
 rename_i q nl its n cap l
 simp only[Option.some.injEq,Prod.mk.injEq]at he
 obtain⟨rfl,rfl,rfl⟩:=he
 simp only[List.mem_cons,List.not_mem_nil,or_false,forall_eq_or_imp,forall_eq,decide_eq_true_eq]at ho
 obtain⟨o1,o2,o3,o4⟩:=ho
 simp only[b8,AV.norm,bA,aI.norm,Con.size,List.cons.injEq,AV.c.injEq,AV.agg.injEq,aI.view.injEq,aN,true_and,and_true]at hnorm
 obtain⟨rfl,_,rfl⟩:=hnorm
 subst o1
 have h3:=decide_eq_true o3
 have h4:=decide_eq_true o4
 cases h2:decide (szF l (rF its)<0)with
 |true=>
  have e:szF l (rF its)= -1:=by
   by_cases c:l-(rF its:Int)<0
   ·exact aC1 c
   ·have:=of_decide_eq_true h2;rw[aC2 c]at this;omega
  rw[e]
  exact cU R6 (a7H q its l []) (by kernel_rfl) (by kernel_rfl) rfl (by simp only[h2,h3,h4,o2,decide_true,rpS,decide_false,beq_self_eq_true,bne_self_eq_false,Bool.not_true,Bool.not_false,Bool.not_not,cond_true,cond_false,Bool.true_and,Bool.and_true,Bool.false_and,Bool.and_false,Bool.or_true,Bool.true_or,Bool.or_false,Bool.false_or,Bool.and_eq_true,Bool.not_eq_true',decide_eq_true_eq,decide_eq_false_iff_not,true_and,and_true])
 |false=>exact cU R6 (a7I q its l []) (by kernel_rfl) (by kernel_rfl) rfl (by simp only[h2,h3,h4,o2,decide_true,rpS,decide_false,beq_self_eq_true,bne_self_eq_false,Bool.not_true,Bool.not_false,Bool.not_not,cond_true,cond_false,Bool.true_and,Bool.and_true,Bool.false_and,Bool.and_false,Bool.or_true,Bool.true_or,Bool.or_false,Bool.false_or,Bool.and_eq_true,Bool.not_eq_true',decide_eq_true_eq,decide_eq_false_iff_not,true_and,and_true])
noncomputable def DW:List aZ:=[⟨15,[],nm KN⟩,⟨17,[],dW tt (aH DV) Tryz.f17 []⟩,⟨19,[],dW tt (aH DV) Tryz.f19 [(0,false),(0,false)]⟩,⟨18,[],nm SN⟩,⟨16,[],nm SO⟩]++DV
theorem a08:aA Tryz.prog DW:=by
 refine aA.append ?_ a07
 intro e he
 simp only[List.mem_cons,List.not_mem_nil,or_false]at he
 rcases he with rfl|rfl|rfl|rfl|rfl
 ·exact mSL.ok
 ·exact cJ hT R6 bE [] (by kernel_rfl) (by kernel_rfl)
 ·exact cJ hT R6 bE [(0,false),(0,false)] (by kernel_rfl) (by kernel_rfl)
 ·exact mOI.ok
 ·exact mOS.ok
theorem R7:bL Tryz.prog (aH DW):=aQ a08
theorem a80 (q:Int) (its:List Itm) (lcv:List (Nat×LC)):aJ tt (aH DW) (lcv) 100 Tryz.f21 [.agg [.int .i64 q,.view none (.typ .itm its) its.length 2 none]] [] [(0,true)]=
  some ⟨.c (.int .i64 (-1)),[],(decide (its.length=its.length)&&(sdI its&&((!shB q its)&&true))),[]⟩:=by kernel_rfl
theorem a81 (q:Int) (its:List Itm) (lcv:List (Nat×LC)):aJ tt (aH DW) (lcv) 100 Tryz.f21 [.agg [.int .i64 q,.view none (.typ .itm its) its.length 2 none]] [] [(0,false)]=
  some ⟨.c (.int .i64 (jP its)),[],(decide (its.length=its.length)&&(sdI its&&(!!shB q its&&(decide (its.length=its.length)&&((decide (its.length≤274877906944))&&true))))),[]⟩:=by kernel_rfl
theorem a82 (q:Int) (its:List Itm) (lcv:List (Nat×LC)):aJ tt (aH DW) (lcv) 100 Tryz.f20 [.agg [.int .i64 q,.view none (.typ .itm its) its.length 2 none]] [] [(0,true)]=
  some ⟨.c (.int .i64 (-1)),[],(decide (its.length=its.length)&&(sdI its&&((!shB q its)&&true))),[]⟩:=by kernel_rfl
theorem a83 (q:Int) (its:List Itm) (lcv:List (Nat×LC)):aJ tt (aH DW) (lcv) 100 Tryz.f20 [.agg [.int .i64 q,.view none (.typ .itm its) its.length 2 none]] [] [(0,false)]=
  some ⟨.c (.int .i64 (jP its)),[],(decide (its.length=its.length)&&(sdI its&&(!!shB q its&&(decide (its.length=its.length)&&((decide (its.length≤274877906944))&&true))))),[]⟩:=by kernel_rfl
end
section
theorem a1X {its:List Itm} (h:rF its≤1048576):decide (its.length≤274877906944)=true∧its.all Itm.md=true∧sdI its=true:=by
 have hl:its.length≤1048576:=by unfold rF at h;omega
 have key: ∀x∈its,x.ks.length≤1048576∧ ∀y∈x.ks,y.zs≤1048576:=fun x hx=>by
  obtain⟨i,hi,rfl⟩:=List.getElem_of_mem hx
  have h1:=zP (g:=fun i=>(its.getD i bM).zs) (n:=its.length) (i:=0) (k:=i) (Nat.zero_le _) (by omega)
  have e:its.getD i bM=its[i]:=by rw[List.getD_eq_getElem?_getD,List.getElem?_eq_getElem hi];rfl
  have h1:(its.getD i bM).zs≤_:=h1
  rw[e]at h1
  unfold rF at h
  have h0:hC its[i].ks≤its[i].zs:=Nat.le_add_left _ _
  have h2:hC its[i].ks≤1048576:=by omega
  unfold hC at h2
  refine⟨by omega,fun y hy=> ?_⟩
  obtain⟨j,hj,rfl⟩:=List.getElem_of_mem hy
  have h3:=zP (g:=fun j=>(its[i].ks.getD j PK0).zs) (n:=its[i].ks.length) (i:=0) (k:=j) (Nat.zero_le _) (by omega)
  have e:its[i].ks.getD j PK0=its[i].ks[j]:=by rw[List.getD_eq_getElem?_getD,List.getElem?_eq_getElem hj];rfl
  have h3:(its[i].ks.getD j PK0).zs≤_:=h3
  rw[e]at h3
  omega
 refine⟨decide_eq_true (by omega),List.all_eq_true.2 fun x hx=>Itm.md_iff.2 ⟨decide_eq_true (by have:=(key x hx).1;omega),List.all_eq_true.2 fun y hy=> ?_⟩, ?_⟩
 ·have h2:=(key x hx).2 y hy
  unfold PK.zs at h2
  exact PK.md_iff.2 ⟨decide_eq_true (by omega),decide_eq_true (by omega),decide_eq_true (by omega),decide_eq_true (by omega)⟩
 ·simp only[sdI,sdK,PK.sd,Bool.and_eq_true,rpS,decide_eq_true_eq,List.all_eq_true]
  refine⟨by omega,fun x hx=>⟨by have:=(key x hx).1;omega,fun y hy=> ?_⟩⟩
  have h2:=(key x hx).2 y hy
  unfold PK.zs at h2
  omega
def suN (q:Int) (its:List Itm):Int:=bif shB q its then jP its else -1
def SU:aO:=fun args h=>
 match args,h with
 |[.agg [.int .i64 q,.view _ (.typ .itm its) n 2 _]],[]=>
  some (.c (.int .i64 (suN q its)),[],[decide (n=its.length),sdI its])
 |_,_=>none
theorem mSU:aT Tryz.prog 21 SU:=by
 intro args h res h' o hnorm he ho
 unfold SU at he
 split at he
 case h_2=>cases he
 rename_i q nl its n cap
 simp only[Option.some.injEq,Prod.mk.injEq]at he
 obtain⟨rfl,rfl,rfl⟩:=he
 simp only[List.mem_cons,List.not_mem_nil,or_false,forall_eq_or_imp,forall_eq,decide_eq_true_eq]at ho
 obtain⟨o1,o2⟩:=ho
 simp only[b8,AV.norm,bA,aI.norm,Con.size,List.cons.injEq,AV.c.injEq,AV.agg.injEq,aI.view.injEq,aN,true_and,and_true]at hnorm
 obtain⟨rfl,_,rfl⟩:=hnorm
 subst o1
 have hn:=decide_eq_true (l6 o2).1
 unfold suN
 cases h:shB q its with
 |false=>exact cU R7 (a80 q its []) (by kernel_rfl) (by kernel_rfl) rfl (by simp only[h,o2,decide_true,rpS,decide_false,beq_self_eq_true,bne_self_eq_false,Bool.not_true,Bool.not_false,Bool.not_not,cond_true,cond_false,Bool.true_and,Bool.and_true,Bool.false_and,Bool.and_false,Bool.or_true,Bool.true_or,Bool.or_false,Bool.false_or,Bool.and_eq_true,Bool.not_eq_true',decide_eq_true_eq,decide_eq_false_iff_not,true_and,and_true])
 |true=>exact cU R7 (a81 q its []) (by kernel_rfl) (by kernel_rfl) rfl (by simp only[h,o2,hn,decide_true,rpS,decide_false,beq_self_eq_true,bne_self_eq_false,Bool.not_true,Bool.not_false,Bool.not_not,cond_true,cond_false,Bool.true_and,Bool.and_true,Bool.false_and,Bool.and_false,Bool.or_true,Bool.true_or,Bool.or_false,Bool.false_or,Bool.and_eq_true,Bool.not_eq_true',decide_eq_true_eq,decide_eq_false_iff_not,true_and,and_true])
def SV:aO:=fun args h=>
 match args,h with
 |[.agg [.int .i64 q,.view _ (.typ .itm its) n 2 _]],[]=>
  some (.c (.int .i64 (suN q its)),[],[decide (n=its.length),sdI its])
 |_,_=>none
theorem aBM:aT Tryz.prog 20 SV:=by
 intro args h res h' o hnorm he ho
 unfold SV at he
 split at he
 case h_2=>cases he
 rename_i q nl its n cap
 simp only[Option.some.injEq,Prod.mk.injEq]at he
 obtain⟨rfl,rfl,rfl⟩:=he
 simp only[List.mem_cons,List.not_mem_nil,or_false,forall_eq_or_imp,forall_eq,decide_eq_true_eq]at ho
 obtain⟨o1,o2⟩:=ho
 simp only[b8,AV.norm,bA,aI.norm,Con.size,List.cons.injEq,AV.c.injEq,AV.agg.injEq,aI.view.injEq,aN,true_and,and_true]at hnorm
 obtain⟨rfl,_,rfl⟩:=hnorm
 subst o1
 have hn:=decide_eq_true (l6 o2).1
 unfold suN
 cases h:shB q its with
 |false=>exact cU R7 (a82 q its []) (by kernel_rfl) (by kernel_rfl) rfl (by simp only[h,o2,decide_true,rpS,decide_false,beq_self_eq_true,bne_self_eq_false,Bool.not_true,Bool.not_false,Bool.not_not,cond_true,cond_false,Bool.true_and,Bool.and_true,Bool.false_and,Bool.and_false,Bool.or_true,Bool.true_or,Bool.or_false,Bool.false_or,Bool.and_eq_true,Bool.not_eq_true',decide_eq_true_eq,decide_eq_false_iff_not,true_and,and_true])
 |true=>exact cU R7 (a83 q its []) (by kernel_rfl) (by kernel_rfl) rfl (by simp only[h,o2,hn,decide_true,rpS,decide_false,beq_self_eq_true,bne_self_eq_false,Bool.not_true,Bool.not_false,Bool.not_not,cond_true,cond_false,Bool.true_and,Bool.and_true,Bool.false_and,Bool.and_false,Bool.or_true,Bool.true_or,Bool.or_false,Bool.false_or,Bool.and_eq_true,Bool.not_eq_true',decide_eq_true_eq,decide_eq_false_iff_not,true_and,and_true])
noncomputable def ZP:List aZ:=[⟨21,[],nm SU⟩,⟨20,[],nm SV⟩]++DW
theorem a8P:aA Tryz.prog ZP:=by
 refine aA.append ?_ a08
 intro e he
 simp only[List.mem_cons,List.not_mem_nil,or_false]at he
 rcases he with rfl|rfl
 ·exact mSU.ok
 ·exact aBM.ok
theorem aBV:bL Tryz.prog (aH ZP):=aQ a8P
end
end Go.Proofs.YtdnfojanjejdgaaGreat.Am
