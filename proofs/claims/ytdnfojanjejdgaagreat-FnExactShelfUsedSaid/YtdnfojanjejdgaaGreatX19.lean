/- DERIVED. Part 19 of the proof: C118, C119, C120, C121. No statement of the program is proved here. -/
import Derived.Test.YtdnfojanjejdgaaGreatX18
set_option linter.unusedSimpArgs false
set_option linter.unusedVariables false
set_option linter.unusedSectionVars false
namespace Go.Proofs.YtdnfojanjejdgaaGreat.Am
section
noncomputable def EO:List aZ:=[⟨60,[],nm PM⟩,⟨57,[],nm PP⟩,⟨61,[],Q4⟩,⟨55,[],PO⟩,⟨63,[],nm Q7⟩,⟨65,[],nm Q8⟩]++fZ
theorem X5:a7 Tryz.prog EO:=by
 refine a7.append ?_ X4
 intro e he
 simp only[List.mem_cons,List.not_mem_nil,or_false]at he
 rcases he with rfl|rfl|rfl|rfl|rfl|rfl
 ·exact mIT.ok
 ·exact mLT.ok
 ·exact mTI
 ·exact mLN
 ·exact mUS.ok
 ·exact mUT.ok
theorem U9:bK Tryz.prog (a9 EO):=aO X5
theorem a3G (x l h:Int):aE tt (a9 EO) ([]) 100 Tryz.f58 [.c (.int .i64 x),.c (.int .i64 l),.c (.int .i64 h)] [] [(0,true)]=
  some ⟨.c (.bool (bif decide (x≥l)then decide (x≤h)else false)),[],(rp2 (decide (x≥l)) ((decide (x≥l))&&true)),[]⟩:=by kernel_rfl
theorem a3H (x l h:Int):aE tt (a9 EO) ([]) 100 Tryz.f58 [.c (.int .i64 x),.c (.int .i64 l),.c (.int .i64 h)] [] [(0,false)]=
  some ⟨.c (.bool false),[],(rp3 (!decide (x≥l)) ((!decide (x≥l))&&true)),[]⟩:=by kernel_rfl
def PI:aM:=fun args h=>
 match args,h with
 |[.c (.int .i64 x),.c (.int .i64 l),.c (.int .i64 h)],[]=>
  some (.c (.bool (bet x l h)),[],[])
 |_,_=>none
theorem m6I:aQ Tryz.prog 58 PI:=by
 intro args h res h' o he ho
 unfold PI at he
 split at he
 case h_2=>cases he
 rename_i x l h
 simp only[Option.some.injEq,Prod.mk.injEq]at he
 obtain⟨rfl,rfl,rfl⟩:=he
 unfold bet
 cases h1:decide (l≤x)with
 |false=>exact cF U9 (a3H x l h) (by kernel_rfl) (by kernel_rfl) rfl (by simp only[h1,decide_true,rpS,decide_false,beq_self_eq_true,bne_self_eq_false,Bool.not_true,Bool.not_false,Bool.not_not,cond_true,cond_false,Bool.true_and,Bool.and_true,Bool.false_and,Bool.and_false,Bool.or_true,Bool.true_or,Bool.or_false,Bool.false_or,Bool.and_eq_true,Bool.not_eq_true',decide_eq_true_eq,decide_eq_false_iff_not,true_and,and_true])
 |true=>
  have e:=a3G x l h
  have h1':decide (x≥l)=true:=h1
  rw[h1']at e
  exact cF U9 e (by kernel_rfl) (by kernel_rfl) rfl (by simp only[decide_true,rpS,decide_false,beq_self_eq_true,bne_self_eq_false,Bool.not_true,Bool.not_false,Bool.not_not,cond_true,cond_false,Bool.true_and,Bool.and_true,Bool.false_and,Bool.and_false,Bool.or_true,Bool.true_or,Bool.or_false,Bool.false_or,Bool.and_eq_true,Bool.not_eq_true',decide_eq_true_eq,decide_eq_false_iff_not,true_and,and_true])
noncomputable def dG:List aZ:=[⟨58,[],PI⟩,⟨62,[],dV tt (a9 EO) Tryz.f62 []⟩]++EO
theorem X6:a7 Tryz.prog dG:=by
 refine a7.append ?_ X5
 intro e he
 simp only[List.mem_cons,List.not_mem_nil,or_false]at he
 rcases he with rfl|rfl
 ·exact m6I
 ·exact cG hT U9 bF [] (by kernel_rfl) (by kernel_rfl)
theorem kM:bK Tryz.prog (a9 dG):=aO X6
noncomputable abbrev fOI:=Tryz.f18
noncomputable def IOI (q:Int) (its:List Itm) (i:Int):St:=aR fOI.ntmps [(1,.c (.ptr 0 0 0 0)),(8,.c (.view none (.typ .itm its) its.length 2 none)),(9,.c (.int .i64 (its.length:Int))),(10,.c (.int .i64 i))] [.live (.cells [.int .i64 q,.view none (.typ .itm its) its.length 2 none])]
noncomputable def XOI (q:Int) (its:List Itm):St:=aR fOI.ntmps [(1,.c (.ptr 0 0 0 0))] [.live (.cells [.int .i64 q,.view none (.typ .itm its) its.length 2 none])]
noncomputable def YOI (q:Int) (its:List Itm):St:=aR fOI.ntmps [(1,.c (.ptr 0 0 0 0)),(2,.c (.bool false))] [.live (.cells [.int .i64 q,.view none (.typ .itm its) its.length 2 none])]
theorem a0K (q:Int) (its:List Itm) (i:Int):aC 0 (a6 fOI 0) (a8 fOI 0) (aD tt (a9 dG) ([]) 0 100 (a5 0 (a0 fOI)) (IOI q its i) [(0,true),(0,true)])=
  some (.ret,(decide (i<(↑its.length:Int))&&(decide (0≤i)&&(decide (i<(↑its.length:Int))&&((decide (i.toNat<its.length)&&true)&&(decide ((its.getD i.toNat aI).ks.length=(its.getD i.toNat aI).2.length)&&(sdK (its.getD i.toNat aI).2&&(rp4 (!itB (its.getD i.toNat aI).2) ((!itB (its.getD i.toNat aI).2)&&true)))))))),[],YOI q its):=by kernel_rfl
theorem a0L (q:Int) (its:List Itm) (i:Int):aC 0 (a6 fOI 0) (a8 fOI 0) (aD tt (a9 dG) ([]) 0 100 (a5 0 (a0 fOI)) (IOI q its i) [(0,true),(0,false),(0,true)])=
  some (.ret,(decide (i<(↑its.length:Int))&&(decide (0≤i)&&(decide (i<(↑its.length:Int))&&((decide (i.toNat<its.length)&&true)&&(decide ((its.getD i.toNat aI).ks.length=(its.getD i.toNat aI).2.length)&&(sdK (its.getD i.toNat aI).2&&(rp4 (!!itB (its.getD i.toNat aI).2) (rp5 (bif !itB (its.getD i.toNat aI).2 then true else !cU (its.getD i.toNat aI).1) true)))))))),[],YOI q its):=by kernel_rfl
theorem a0M (q:Int) (its:List Itm) (i:Int):aC 0 (a6 fOI 0) (a8 fOI 0) (aD tt (a9 dG) ([]) 0 100 (a5 0 (a0 fOI)) (IOI q its i) [(0,true),(0,false),(0,false),(0,true),(0,true)])=
  some (.ret,(decide (i<(↑its.length:Int))&&(decide (0≤i)&&(decide (i<(↑its.length:Int))&&((decide (i.toNat<its.length)&&true)&&(decide ((its.getD i.toNat aI).ks.length=(its.getD i.toNat aI).2.length)&&(sdK (its.getD i.toNat aI).2&&(rp4 (!!itB (its.getD i.toNat aI).2) (rp3 (!bif !itB (its.getD i.toNat aI).2 then true else !cU (its.getD i.toNat aI).1) (rp5 (decide (i>0)) (decide (0≤IntKind.i64.wrap (i-1))&&(decide (IntKind.i64.wrap (i-1)<(↑its.length:Int))&&(rp2 (decide (i>0)) ((decide ((IntKind.i64.wrap (i-1)).toNat<its.length)&&true)&&(rp3 (decide (i>0)) ((!bif !itB (its.getD i.toNat aI).2 then true else !cU (its.getD i.toNat aI).1)&&((bif bif !itB (its.getD i.toNat aI).2 then true else !cU (its.getD i.toNat aI).1 then true else bif decide (i>0)then !cW (its.getD (IntKind.i64.wrap (i-1)).toNat aI).1 (its.getD i.toNat aI).1 else false)&&true)))))))))))))))),[],YOI q its):=by kernel_rfl
theorem a0N (q:Int) (its:List Itm) (i:Int):aC 0 (a6 fOI 0) (a8 fOI 0) (aD tt (a9 dG) ([]) 0 100 (a5 0 (a0 fOI)) (IOI q its i) [(0,true),(0,false),(0,false),(0,true),(0,false)])=
  some (.normal,(decide (i<(↑its.length:Int))&&(decide (0≤i)&&(decide (i<(↑its.length:Int))&&((decide (i.toNat<its.length)&&true)&&(decide ((its.getD i.toNat aI).ks.length=(its.getD i.toNat aI).2.length)&&(sdK (its.getD i.toNat aI).2&&(rp4 (!!itB (its.getD i.toNat aI).2) (rp3 (!bif !itB (its.getD i.toNat aI).2 then true else !cU (its.getD i.toNat aI).1) (rp5 (decide (i>0)) (decide (0≤IntKind.i64.wrap (i-1))&&(decide (IntKind.i64.wrap (i-1)<(↑its.length:Int))&&(rp2 (decide (i>0)) ((decide ((IntKind.i64.wrap (i-1)).toNat<its.length)&&true)&&(rp3 (decide (i>0)) ((!bif !itB (its.getD i.toNat aI).2 then true else !cU (its.getD i.toNat aI).1)&&((!bif bif !itB (its.getD i.toNat aI).2 then true else !cU (its.getD i.toNat aI).1 then true else bif decide (i>0)then !cW (its.getD (IntKind.i64.wrap (i-1)).toNat aI).1 (its.getD i.toNat aI).1 else false)&&true)))))))))))))))),[],IOI q its (IntKind.i64.wrap (i+1))):=by kernel_rfl
theorem a0O (q:Int) (its:List Itm) (i:Int):aC 0 (a6 fOI 0) (a8 fOI 0) (aD tt (a9 dG) ([]) 0 100 (a5 0 (a0 fOI)) (IOI q its i) [(0,true),(0,false),(0,false),(0,false),(0,false)])=
  some (.normal,(decide (i<(↑its.length:Int))&&(decide (0≤i)&&(decide (i<(↑its.length:Int))&&((decide (i.toNat<its.length)&&true)&&(decide ((its.getD i.toNat aI).ks.length=(its.getD i.toNat aI).2.length)&&(sdK (its.getD i.toNat aI).2&&(rp4 (!!itB (its.getD i.toNat aI).2) (rp3 (!bif !itB (its.getD i.toNat aI).2 then true else !cU (its.getD i.toNat aI).1) ((!decide (i>0))&&(rp9 (!decide (i>0)) ((!bif !itB (its.getD i.toNat aI).2 then true else !cU (its.getD i.toNat aI).1)&&(!decide (i>0)&&((!bif bif !itB (its.getD i.toNat aI).2 then true else !cU (its.getD i.toNat aI).1 then true else false)&&true))))))))))))),[],IOI q its (IntKind.i64.wrap (i+1))):=by kernel_rfl
theorem a0P (q:Int) (its:List Itm) (i:Int):aC 0 (a6 fOI 0) (a8 fOI 0) (aD tt (a9 dG) ([]) 0 100 (a5 0 (a0 fOI)) (IOI q its i) [(0,false)])=
  some (.exit 0,((!decide (i<(↑its.length:Int)))&&true),[],XOI q its):=by kernel_rfl
theorem a48 (q:Int) (its:List Itm):aE tt (a9 dG) ([(0,⟨a6 fOI 0,IOI q its 0,.normal,XOI q its⟩)]) 100 fOI [.agg [.int .i64 q,.view none (.typ .itm its) its.length 2 none]] [] [(0,true)]=
  some ⟨.c (.bool (bif bet q 0 12 then decide (jM its≤q)else false)),[],(rp2 (bet q 0 12) (decide (its.length=its.length)&&(decide (its.length≤274877906944)&&(rp2 (bet q 0 12) ((bet q 0 12)&&true))))),[IOI q its 0=IOI q its 0]⟩:=by kernel_rfl
theorem a49 (q:Int) (its:List Itm):aE tt (a9 dG) ([(0,⟨a6 fOI 0,IOI q its 0,.normal,XOI q its⟩)]) 100 fOI [.agg [.int .i64 q,.view none (.typ .itm its) its.length 2 none]] [] [(0,false)]=
  some ⟨.c (.bool false),[],(rp5 (!bet q 0 12) ((!bet q 0 12)&&true)),[IOI q its 0=IOI q its 0]⟩:=by kernel_rfl
theorem a58 (q:Int) (its:List Itm):aE tt (a9 dG) ([(0,⟨a6 fOI 0,IOI q its 0,.ret,YOI q its⟩)]) 100 fOI [.agg [.int .i64 q,.view none (.typ .itm its) its.length 2 none]] [] []=
  some ⟨.c (.bool false),[],true,[IOI q its 0=IOI q its 0]⟩:=by kernel_rfl
noncomputable abbrev fOS:=Tryz.f16
noncomputable def IOS (q:Int) (its:List Itm) (n i:Int):St:=aR fOS.ntmps [(1,.c (.ptr 0 0 0 0)),(3,.c (.int .i64 n)),(4,.c (.int .i64 i))] [.live (.cells [.int .i64 q,.view none (.typ .itm its) its.length 2 none])]
noncomputable def XOS (q:Int) (its:List Itm) (n:Int):St:=aR fOS.ntmps [(1,.c (.ptr 0 0 0 0)),(3,.c (.int .i64 n))] [.live (.cells [.int .i64 q,.view none (.typ .itm its) its.length 2 none])]
noncomputable def YOS (q:Int) (its:List Itm) (n:Int):St:=aR fOS.ntmps [(1,.c (.ptr 0 0 0 0)),(2,.c (.bool false)),(3,.c (.int .i64 n))] [.live (.cells [.int .i64 q,.view none (.typ .itm its) its.length 2 none])]
noncomputable def JOS (q:Int) (its:List Itm) (n i:Int) (nm:ByteArray) (ks:List PK) (j:Int):St:=aR fOS.ntmps [(1,.c (.ptr 0 0 0 0)),(3,.c (.int .i64 n)),(4,.c (.int .i64 i)),(5,.c (.ptr 1 0 0 0)),(6,.c (.int .i64 j))] [.live (.cells [.int .i64 q,.view none (.typ .itm its) its.length 2 none]),.live (.cells [.str nm,.view none (.typ .pk ks) ks.length 8 none])]
noncomputable def ZOS (q:Int) (its:List Itm) (n i:Int) (nm:ByteArray) (ks:List PK):St:=aR fOS.ntmps [(1,.c (.ptr 0 0 0 0)),(3,.c (.int .i64 n)),(4,.c (.int .i64 i)),(5,.c (.ptr 1 0 0 0))] [.live (.cells [.int .i64 q,.view none (.typ .itm its) its.length 2 none]),.live (.cells [.str nm,.view none (.typ .pk ks) ks.length 8 none])]
noncomputable def WOS (q:Int) (its:List Itm) (n i:Int) (nm:ByteArray) (ks:List PK):St:=aR fOS.ntmps [(1,.c (.ptr 0 0 0 0)),(2,.c (.bool false)),(3,.c (.int .i64 n)),(4,.c (.int .i64 i)),(5,.c (.ptr 1 0 0 0))] [.live (.cells [.int .i64 q,.view none (.typ .itm its) its.length 2 none]),.live (.cells [.str nm,.view none (.typ .pk ks) ks.length 8 none])]
theorem XM (q:Int) (its:List Itm) (n i:Int) (nm:ByteArray) (ks:List PK) (j:Int):aC 0 (a6 fOS 2) (a8 fOS 2) (aD tt (a9 dG) ([]) 0 100 (a5 2 (a0 fOS)) (JOS q its n i nm ks j) [(0,true),(0,true)])=
  some (.ret,(decide (j<(↑ks.length:Int))&&(decide (0≤j)&&(decide (j<(↑ks.length:Int))&&((decide (j.toNat<ks.length)&&true)&&(decide ((ks.getD j.toNat PK0).2.length≤274877906944)&&(decide ((ks.getD j.toNat PK0).7.length≤274877906944)&&(rp6 (!bB (ks.getD j.toNat PK0).1 (ks.getD j.toNat PK0).2 (ks.getD j.toNat PK0).3 (ks.getD j.toNat PK0).4 (ks.getD j.toNat PK0).5 (ks.getD j.toNat PK0).6 (ks.getD j.toNat PK0).7 (ks.getD j.toNat PK0).8) ((!bB (ks.getD j.toNat PK0).1 (ks.getD j.toNat PK0).2 (ks.getD j.toNat PK0).3 (ks.getD j.toNat PK0).4 (ks.getD j.toNat PK0).5 (ks.getD j.toNat PK0).6 (ks.getD j.toNat PK0).7 (ks.getD j.toNat PK0).8)&&true)))))))),[],WOS q its n i nm ks):=by kernel_rfl
theorem XN (q:Int) (its:List Itm) (n i:Int) (nm:ByteArray) (ks:List PK) (j:Int):aC 0 (a6 fOS 2) (a8 fOS 2) (aD tt (a9 dG) ([]) 0 100 (a5 2 (a0 fOS)) (JOS q its n i nm ks j) [(0,true),(0,false),(0,true)])=
  some (.ret,(decide (j<(↑ks.length:Int))&&(decide (0≤j)&&(decide (j<(↑ks.length:Int))&&((decide (j.toNat<ks.length)&&true)&&(decide ((ks.getD j.toNat PK0).2.length≤274877906944)&&(decide ((ks.getD j.toNat PK0).7.length≤274877906944)&&(rp4 (!!bB (ks.getD j.toNat PK0).1 (ks.getD j.toNat PK0).2 (ks.getD j.toNat PK0).3 (ks.getD j.toNat PK0).4 (ks.getD j.toNat PK0).5 (ks.getD j.toNat PK0).6 (ks.getD j.toNat PK0).7 (ks.getD j.toNat PK0).8) (decide (0≤j)&&(decide (j<(↑ks.length:Int))&&(rp2 (!!bB (ks.getD j.toNat PK0).1 (ks.getD j.toNat PK0).2 (ks.getD j.toNat PK0).3 (ks.getD j.toNat PK0).4 (ks.getD j.toNat PK0).5 (ks.getD j.toNat PK0).6 (ks.getD j.toNat PK0).7 (ks.getD j.toNat PK0).8) ((decide (j.toNat<ks.length)&&true)&&((bif !bB (ks.getD j.toNat PK0).1 (ks.getD j.toNat PK0).2 (ks.getD j.toNat PK0).3 (ks.getD j.toNat PK0).4 (ks.getD j.toNat PK0).5 (ks.getD j.toNat PK0).6 (ks.getD j.toNat PK0).7 (ks.getD j.toNat PK0).8 then true else(ks.getD j.toNat PK0).5)&&true)))))))))))),[],WOS q its n i nm ks):=by kernel_rfl
theorem XO (q:Int) (its:List Itm) (n i:Int) (nm:ByteArray) (ks:List PK) (j:Int):aC 0 (a6 fOS 2) (a8 fOS 2) (aD tt (a9 dG) ([]) 0 100 (a5 2 (a0 fOS)) (JOS q its n i nm ks j) [(0,true),(0,false),(0,false)])=
  some (.normal,(decide (j<(↑ks.length:Int))&&(decide (0≤j)&&(decide (j<(↑ks.length:Int))&&((decide (j.toNat<ks.length)&&true)&&(decide ((ks.getD j.toNat PK0).2.length≤274877906944)&&(decide ((ks.getD j.toNat PK0).7.length≤274877906944)&&(rp4 (!!bB (ks.getD j.toNat PK0).1 (ks.getD j.toNat PK0).2 (ks.getD j.toNat PK0).3 (ks.getD j.toNat PK0).4 (ks.getD j.toNat PK0).5 (ks.getD j.toNat PK0).6 (ks.getD j.toNat PK0).7 (ks.getD j.toNat PK0).8) (decide (0≤j)&&(decide (j<(↑ks.length:Int))&&(rp2 (!!bB (ks.getD j.toNat PK0).1 (ks.getD j.toNat PK0).2 (ks.getD j.toNat PK0).3 (ks.getD j.toNat PK0).4 (ks.getD j.toNat PK0).5 (ks.getD j.toNat PK0).6 (ks.getD j.toNat PK0).7 (ks.getD j.toNat PK0).8) ((decide (j.toNat<ks.length)&&true)&&((!bif !bB (ks.getD j.toNat PK0).1 (ks.getD j.toNat PK0).2 (ks.getD j.toNat PK0).3 (ks.getD j.toNat PK0).4 (ks.getD j.toNat PK0).5 (ks.getD j.toNat PK0).6 (ks.getD j.toNat PK0).7 (ks.getD j.toNat PK0).8 then true else(ks.getD j.toNat PK0).5)&&true)))))))))))),[],JOS q its n i nm ks (IntKind.i64.wrap (j+1))):=by kernel_rfl
theorem XP (q:Int) (its:List Itm) (n i:Int) (nm:ByteArray) (ks:List PK) (j:Int):aC 0 (a6 fOS 2) (a8 fOS 2) (aD tt (a9 dG) ([]) 0 100 (a5 2 (a0 fOS)) (JOS q its n i nm ks j) [(0,false)])=
  some (.exit 2,((!decide (j<(↑ks.length:Int)))&&true),[],ZOS q its n i nm ks):=by kernel_rfl
theorem a0Q (q:Int) (its:List Itm) (n i:Int):aC 0 (a6 fOS 0) (a8 fOS 0) (aD tt (a9 dG) ([(2,⟨a6 fOS 2,JOS q its n i (its.getD i.toNat aI).nm (its.getD i.toNat aI).ks 0,.normal,ZOS q its n i (its.getD i.toNat aI).nm (its.getD i.toNat aI).ks⟩)]) 0 100 (a5 0 (a0 fOS)) (IOS q its n i) [(0,true),(0,true)])=
  some (.ret,(decide (i<(↑its.length:Int))&&(decide (0≤i)&&(decide (i<(↑its.length:Int))&&((decide (i.toNat<its.length)&&true)&&(rp4 (!cU (its.getD i.toNat aI).1) ((!cU (its.getD i.toNat aI).1)&&true)))))),[],YOS q its n):=by kernel_rfl
theorem a0R (q:Int) (its:List Itm) (n i:Int):aC 0 (a6 fOS 0) (a8 fOS 0) (aD tt (a9 dG) ([(2,⟨a6 fOS 2,JOS q its n i (its.getD i.toNat aI).nm (its.getD i.toNat aI).ks 0,.normal,ZOS q its n i (its.getD i.toNat aI).nm (its.getD i.toNat aI).ks⟩)]) 0 100 (a5 0 (a0 fOS)) (IOS q its n i) [(0,true),(0,false),(0,true),(0,true)])=
  some (.ret,(decide (i<(↑its.length:Int))&&(decide (0≤i)&&(decide (i<(↑its.length:Int))&&((decide (i.toNat<its.length)&&true)&&(rp3 (!!cU (its.getD i.toNat aI).1) (rp5 (decide (i>0)) (decide (0≤IntKind.i64.wrap (i-1))&&(decide (IntKind.i64.wrap (i-1)<(↑its.length:Int))&&(rp2 (decide (i>0)) ((decide ((IntKind.i64.wrap (i-1)).toNat<its.length)&&true)&&(rp3 (decide (i>0)) (!!cU (its.getD i.toNat aI).1&&((bif !cU (its.getD i.toNat aI).1 then true else bif decide (i>0)then !cW (its.getD (IntKind.i64.wrap (i-1)).toNat aI).1 (its.getD i.toNat aI).1 else false)&&true))))))))))))),[],YOS q its n):=by kernel_rfl
theorem a0S (q:Int) (its:List Itm) (n i:Int):aC 0 (a6 fOS 0) (a8 fOS 0) (aD tt (a9 dG) ([(2,⟨a6 fOS 2,JOS q its n i (its.getD i.toNat aI).nm (its.getD i.toNat aI).ks 0,.normal,ZOS q its n i (its.getD i.toNat aI).nm (its.getD i.toNat aI).ks⟩)]) 0 100 (a5 0 (a0 fOS)) (IOS q its n i) [(0,true),(0,false),(0,true),(0,false),(0,true)])=
  some (.ret,(decide (i<(↑its.length:Int))&&(decide (0≤i)&&(decide (i<(↑its.length:Int))&&((decide (i.toNat<its.length)&&true)&&(rp3 (!!cU (its.getD i.toNat aI).1) (rp5 (decide (i>0)) (decide (0≤IntKind.i64.wrap (i-1))&&(decide (IntKind.i64.wrap (i-1)<(↑its.length:Int))&&(rp2 (decide (i>0)) ((decide ((IntKind.i64.wrap (i-1)).toNat<its.length)&&true)&&(rp3 (decide (i>0)) (!!cU (its.getD i.toNat aI).1&&((!bif !cU (its.getD i.toNat aI).1 then true else bif decide (i>0)then !cW (its.getD (IntKind.i64.wrap (i-1)).toNat aI).1 (its.getD i.toNat aI).1 else false)&&(decide ((its.getD i.toNat aI).ks.length=(its.getD i.toNat aI).2.length)&&(sdK (its.getD i.toNat aI).2&&(((its.getD i.toNat aI).2.all okR)&&((!itB (its.getD i.toNat aI).2)&&true))))))))))))))))),[JOS q its n i (its.getD i.toNat aI).nm (its.getD i.toNat aI).ks 0=JOS q its n i (its.getD i.toNat aI).nm (its.getD i.toNat aI).ks 0],YOS q its n):=by kernel_rfl
theorem a0T (q:Int) (its:List Itm) (n i:Int):aC 0 (a6 fOS 0) (a8 fOS 0) (aD tt (a9 dG) ([(2,⟨a6 fOS 2,JOS q its n i (its.getD i.toNat aI).nm (its.getD i.toNat aI).ks 0,.normal,ZOS q its n i (its.getD i.toNat aI).nm (its.getD i.toNat aI).ks⟩)]) 0 100 (a5 0 (a0 fOS)) (IOS q its n i) [(0,true),(0,false),(0,true),(0,false),(0,false)])=
  some (.normal,(decide (i<(↑its.length:Int))&&(decide (0≤i)&&(decide (i<(↑its.length:Int))&&((decide (i.toNat<its.length)&&true)&&(rp3 (!!cU (its.getD i.toNat aI).1) (rp5 (decide (i>0)) (decide (0≤IntKind.i64.wrap (i-1))&&(decide (IntKind.i64.wrap (i-1)<(↑its.length:Int))&&(rp2 (decide (i>0)) ((decide ((IntKind.i64.wrap (i-1)).toNat<its.length)&&true)&&(rp3 (decide (i>0)) (!!cU (its.getD i.toNat aI).1&&((!bif !cU (its.getD i.toNat aI).1 then true else bif decide (i>0)then !cW (its.getD (IntKind.i64.wrap (i-1)).toNat aI).1 (its.getD i.toNat aI).1 else false)&&(decide ((its.getD i.toNat aI).ks.length=(its.getD i.toNat aI).2.length)&&(sdK (its.getD i.toNat aI).2&&(((its.getD i.toNat aI).2.all okR)&&((!!itB (its.getD i.toNat aI).2)&&true))))))))))))))))),[JOS q its n i (its.getD i.toNat aI).nm (its.getD i.toNat aI).ks 0=JOS q its n i (its.getD i.toNat aI).nm (its.getD i.toNat aI).ks 0],IOS q its (IntKind.i64.wrap (n+(↑(its.getD i.toNat aI).ks.length:Int))) (IntKind.i64.wrap (i+1))):=by kernel_rfl
theorem a0U (q:Int) (its:List Itm) (n i:Int):aC 0 (a6 fOS 0) (a8 fOS 0) (aD tt (a9 dG) ([(2,⟨a6 fOS 2,JOS q its n i (its.getD i.toNat aI).nm (its.getD i.toNat aI).ks 0,.normal,ZOS q its n i (its.getD i.toNat aI).nm (its.getD i.toNat aI).ks⟩)]) 0 100 (a5 0 (a0 fOS)) (IOS q its n i) [(0,true),(0,false),(0,false),(0,false),(0,true)])=
  some (.ret,(decide (i<(↑its.length:Int))&&(decide (0≤i)&&(decide (i<(↑its.length:Int))&&((decide (i.toNat<its.length)&&true)&&(rp3 (!!cU (its.getD i.toNat aI).1) ((!decide (i>0))&&(rp9 (!decide (i>0)) (!!cU (its.getD i.toNat aI).1&&(!decide (i>0)&&((!bif !cU (its.getD i.toNat aI).1 then true else false)&&(decide ((its.getD i.toNat aI).ks.length=(its.getD i.toNat aI).2.length)&&(sdK (its.getD i.toNat aI).2&&(((its.getD i.toNat aI).2.all okR)&&((!itB (its.getD i.toNat aI).2)&&true)))))))))))))),[JOS q its n i (its.getD i.toNat aI).nm (its.getD i.toNat aI).ks 0=JOS q its n i (its.getD i.toNat aI).nm (its.getD i.toNat aI).ks 0],YOS q its n):=by kernel_rfl
theorem a0V (q:Int) (its:List Itm) (n i:Int):aC 0 (a6 fOS 0) (a8 fOS 0) (aD tt (a9 dG) ([(2,⟨a6 fOS 2,JOS q its n i (its.getD i.toNat aI).nm (its.getD i.toNat aI).ks 0,.normal,ZOS q its n i (its.getD i.toNat aI).nm (its.getD i.toNat aI).ks⟩)]) 0 100 (a5 0 (a0 fOS)) (IOS q its n i) [(0,true),(0,false),(0,false),(0,false),(0,false)])=
  some (.normal,(decide (i<(↑its.length:Int))&&(decide (0≤i)&&(decide (i<(↑its.length:Int))&&((decide (i.toNat<its.length)&&true)&&(rp3 (!!cU (its.getD i.toNat aI).1) ((!decide (i>0))&&(rp9 (!decide (i>0)) (!!cU (its.getD i.toNat aI).1&&(!decide (i>0)&&((!bif !cU (its.getD i.toNat aI).1 then true else false)&&(decide ((its.getD i.toNat aI).ks.length=(its.getD i.toNat aI).2.length)&&(sdK (its.getD i.toNat aI).2&&(((its.getD i.toNat aI).2.all okR)&&((!!itB (its.getD i.toNat aI).2)&&true)))))))))))))),[JOS q its n i (its.getD i.toNat aI).nm (its.getD i.toNat aI).ks 0=JOS q its n i (its.getD i.toNat aI).nm (its.getD i.toNat aI).ks 0],IOS q its (IntKind.i64.wrap (n+(↑(its.getD i.toNat aI).ks.length:Int))) (IntKind.i64.wrap (i+1))):=by kernel_rfl
theorem a0W (q:Int) (its:List Itm) (n i:Int) (lcv:List (Nat×LC)):aC 0 (a6 fOS 0) (a8 fOS 0) (aD tt (a9 dG) (lcv) 0 100 (a5 0 (a0 fOS)) (IOS q its n i) [(0,false)])=
  some (.exit 0,((!decide (i<(↑its.length:Int)))&&true),[],XOS q its n):=by kernel_rfl
theorem a1N (q:Int) (its:List Itm) (n i:Int):aC 0 (a6 fOS 0) (a8 fOS 0) (aD tt (a9 dG) ([(2,⟨a6 fOS 2,JOS q its n i (its.getD i.toNat aI).nm (its.getD i.toNat aI).ks 0,.ret,WOS q its n i (its.getD i.toNat aI).nm (its.getD i.toNat aI).ks⟩)]) 0 100 (a5 0 (a0 fOS)) (IOS q its n i) [(0,true),(0,true)])=
  some (.ret,(decide (i<(↑its.length:Int))&&(decide (0≤i)&&(decide (i<(↑its.length:Int))&&((decide (i.toNat<its.length)&&true)&&(rp4 (!cU (its.getD i.toNat aI).1) ((!cU (its.getD i.toNat aI).1)&&true)))))),[],YOS q its n):=by kernel_rfl
theorem a1O (q:Int) (its:List Itm) (n i:Int):aC 0 (a6 fOS 0) (a8 fOS 0) (aD tt (a9 dG) ([(2,⟨a6 fOS 2,JOS q its n i (its.getD i.toNat aI).nm (its.getD i.toNat aI).ks 0,.ret,WOS q its n i (its.getD i.toNat aI).nm (its.getD i.toNat aI).ks⟩)]) 0 100 (a5 0 (a0 fOS)) (IOS q its n i) [(0,true),(0,false),(0,true),(0,true)])=
  some (.ret,(decide (i<(↑its.length:Int))&&(decide (0≤i)&&(decide (i<(↑its.length:Int))&&((decide (i.toNat<its.length)&&true)&&(rp3 (!!cU (its.getD i.toNat aI).1) (rp5 (decide (i>0)) (decide (0≤IntKind.i64.wrap (i-1))&&(decide (IntKind.i64.wrap (i-1)<(↑its.length:Int))&&(rp2 (decide (i>0)) ((decide ((IntKind.i64.wrap (i-1)).toNat<its.length)&&true)&&(rp3 (decide (i>0)) (!!cU (its.getD i.toNat aI).1&&((bif !cU (its.getD i.toNat aI).1 then true else bif decide (i>0)then !cW (its.getD (IntKind.i64.wrap (i-1)).toNat aI).1 (its.getD i.toNat aI).1 else false)&&true))))))))))))),[],YOS q its n):=by kernel_rfl
theorem a1P (q:Int) (its:List Itm) (n i:Int):aC 0 (a6 fOS 0) (a8 fOS 0) (aD tt (a9 dG) ([(2,⟨a6 fOS 2,JOS q its n i (its.getD i.toNat aI).nm (its.getD i.toNat aI).ks 0,.ret,WOS q its n i (its.getD i.toNat aI).nm (its.getD i.toNat aI).ks⟩)]) 0 100 (a5 0 (a0 fOS)) (IOS q its n i) [(0,true),(0,false),(0,true),(0,false)])=
  some (.ret,(decide (i<(↑its.length:Int))&&(decide (0≤i)&&(decide (i<(↑its.length:Int))&&((decide (i.toNat<its.length)&&true)&&(rp3 (!!cU (its.getD i.toNat aI).1) (rp5 (decide (i>0)) (decide (0≤IntKind.i64.wrap (i-1))&&(decide (IntKind.i64.wrap (i-1)<(↑its.length:Int))&&(rp2 (decide (i>0)) ((decide ((IntKind.i64.wrap (i-1)).toNat<its.length)&&true)&&(rp3 (decide (i>0)) (!!cU (its.getD i.toNat aI).1&&((!bif !cU (its.getD i.toNat aI).1 then true else bif decide (i>0)then !cW (its.getD (IntKind.i64.wrap (i-1)).toNat aI).1 (its.getD i.toNat aI).1 else false)&&true))))))))))))),[JOS q its n i (its.getD i.toNat aI).nm (its.getD i.toNat aI).ks 0=JOS q its n i (its.getD i.toNat aI).nm (its.getD i.toNat aI).ks 0],YOS q its n):=by kernel_rfl
theorem a1Q (q:Int) (its:List Itm) (n i:Int):aC 0 (a6 fOS 0) (a8 fOS 0) (aD tt (a9 dG) ([(2,⟨a6 fOS 2,JOS q its n i (its.getD i.toNat aI).nm (its.getD i.toNat aI).ks 0,.ret,WOS q its n i (its.getD i.toNat aI).nm (its.getD i.toNat aI).ks⟩)]) 0 100 (a5 0 (a0 fOS)) (IOS q its n i) [(0,true),(0,false),(0,false),(0,false)])=
  some (.ret,(decide (i<(↑its.length:Int))&&(decide (0≤i)&&(decide (i<(↑its.length:Int))&&((decide (i.toNat<its.length)&&true)&&(rp3 (!!cU (its.getD i.toNat aI).1) ((!decide (i>0))&&(rp9 (!decide (i>0)) (!!cU (its.getD i.toNat aI).1&&(!decide (i>0)&&((!bif !cU (its.getD i.toNat aI).1 then true else false)&&true)))))))))),[JOS q its n i (its.getD i.toNat aI).nm (its.getD i.toNat aI).ks 0=JOS q its n i (its.getD i.toNat aI).nm (its.getD i.toNat aI).ks 0],YOS q its n):=by kernel_rfl
theorem a4A (q:Int) (its:List Itm) (n:Int):aE tt (a9 dG) ([(0,⟨a6 fOS 0,IOS q its 0 0,.normal,XOS q its n⟩)]) 100 fOS [.agg [.int .i64 q,.view none (.typ .itm its) its.length 2 none]] [] [(0,true)]=
  some ⟨.c (.bool (bif bet q 0 12 then decide (n≤q)else false)),[],(rp3 (bet q 0 12) ((bet q 0 12)&&true)),[IOS q its 0 0=IOS q its 0 0]⟩:=by kernel_rfl
theorem a4B (q:Int) (its:List Itm) (n:Int):aE tt (a9 dG) ([(0,⟨a6 fOS 0,IOS q its 0 0,.normal,XOS q its n⟩)]) 100 fOS [.agg [.int .i64 q,.view none (.typ .itm its) its.length 2 none]] [] [(0,false)]=
  some ⟨.c (.bool false),[],(rp4 (!bet q 0 12) ((!bet q 0 12)&&true)),[IOS q its 0 0=IOS q its 0 0]⟩:=by kernel_rfl
theorem a59 (q:Int) (its:List Itm) (n:Int):aE tt (a9 dG) ([(0,⟨a6 fOS 0,IOS q its 0 0,.ret,YOS q its n⟩)]) 100 fOS [.agg [.int .i64 q,.view none (.typ .itm its) its.length 2 none]] [] []=
  some ⟨.c (.bool false),[],true,[IOS q its 0 0=IOS q its 0 0]⟩:=by kernel_rfl
def FL (its:List Itm) (i:Nat):Bool:=decide ((i:Int)>0)&& !cW (its.getD (i-1) aI).nm (its.getD i aI).nm
def tI (its:List Itm) (i:Nat):Bool:=itB (its.getD i aI).ks&&(cU (its.getD i aI).nm&& !FL its i)
def shB (q:Int) (its:List Itm):Bool:=cH (tI its) its.length 0&&(bet q 0 12&&decide (jM its≤q))
def sdI (its:List Itm):Bool:=decide (its.length≤274877906944)&&its.all fun x=>sdK x.ks
theorem l6 {its:List Itm} (h:sdI its=true):its.length≤274877906944∧ ∀i,sdK (its.getD i aI).ks=true:=by
 simp only[sdI,Bool.and_eq_true,rpS,decide_eq_true_eq]at h
 refine⟨h.1,fun i=> ?_⟩
 by_cases hi:i<its.length
 ·exact List.all_eq_true.1 h.2 _ (dA (d:=aI) hi)
 ·rw[List.getD_eq_getElem?_getD,List.getElem?_eq_none (by omega)];rfl
theorem fP {i:Nat} (h:decide ((i:Int)>0)=true) (h1:i≤274877906944):IntKind.i64.wrap ((i:Int)-1)=((i-1:Nat):Int):=by
 have:=of_decide_eq_true h
 rw[aB (by omega) (by omega)];omega
theorem lOI (q:Int) (its:List Itm) (h:sdI its=true):aN none Tryz.prog 0 (.block 0 (.loop (a5 0 (a0 fOI)))) (IOI q its 0) fun e t=>e=(bif cH (tI its) its.length 0 then .normal else .ret)∧t=bif cH (tI its) its.length 0 then XOI q its else YOI q its:=by
 obtain⟨hn,hk⟩:=l6 h
 refine aN.all (ro:=none) hT kM bF its.length (tI its) (fun i=>IOI q its i) (XOI q its) (YOI q its) .ret (.inr rfl) (a6 fOI 0) (a8 fOI 0) (fun _=>[]) (fun _ _=>aK.nil) (fun i hi h=> ?_) (fun i hi h=> ?_) ⟨_,_,⟨_,_,a0P q its its.length,by simp,by simp⟩⟩
 ·have h4:sdK (its.getD i aI).2=true:=hk i
  unfold tI at h
  simp only[Bool.and_eq_true,rpS]at h
  obtain⟨h1,h2,h3⟩:=h
  have h1:itB (its.getD i aI).2=true:=h1
  have h2:cU (its.getD i aI).1=true:=h2
  cases h0:decide ((i:Int)>0)with
  |false=>
   have e:=a0O q its i
   rw[aB (i:=(i:Int)+1) (by omega) (by omega),Int.toNat_natCast]at e
   exact⟨_,_,⟨_,_,e,by simp only[h0,h1,h2,h4,decide_true,rpS,decide_false,beq_self_eq_true,bne_self_eq_false,Bool.not_true,Bool.not_false,Bool.not_not,cond_true,cond_false,Bool.true_and,Bool.and_true,Bool.false_and,Bool.and_false,Bool.or_true,Bool.true_or,Bool.or_false,Bool.false_or,Bool.and_eq_true,Bool.not_eq_true',decide_eq_true_eq,decide_eq_false_iff_not,true_and,and_true]<;>omega,by simp⟩⟩
  |true=>
   unfold FL at h3
   rw[h0]at h3
   have h3:cW (its.getD (i-1) aI).1 (its.getD i aI).1=true:=by simpa using h3
   have e:=a0N q its i
   rw[aB (i:=(i:Int)+1) (by omega) (by omega),fP h0 (by omega),Int.toNat_natCast,Int.toNat_natCast]at e
   exact⟨_,_,⟨_,_,e,by simp only[h0,h1,h2,h3,h4,decide_true,rpS,decide_false,beq_self_eq_true,bne_self_eq_false,Bool.not_true,Bool.not_false,Bool.not_not,cond_true,cond_false,Bool.true_and,Bool.and_true,Bool.false_and,Bool.and_false,Bool.or_true,Bool.true_or,Bool.or_false,Bool.false_or,Bool.and_eq_true,Bool.not_eq_true',decide_eq_true_eq,decide_eq_false_iff_not,true_and,and_true]<;>omega,by simp⟩⟩
 ·have h4:sdK (its.getD i aI).2=true:=hk i
  cases h1:itB (its.getD i aI).2 with
  |false=>
   have e:=a0K q its i
   rw[Int.toNat_natCast]at e
   exact⟨_,_,⟨_,_,e,by simp only[h1,h4,decide_true,rpS,decide_false,beq_self_eq_true,bne_self_eq_false,Bool.not_true,Bool.not_false,Bool.not_not,cond_true,cond_false,Bool.true_and,Bool.and_true,Bool.false_and,Bool.and_false,Bool.or_true,Bool.true_or,Bool.or_false,Bool.false_or,Bool.and_eq_true,Bool.not_eq_true',decide_eq_true_eq,decide_eq_false_iff_not,true_and,and_true]<;>omega,by simp⟩⟩
  |true=>
   cases h2:cU (its.getD i aI).1 with
   |false=>
    have e:=a0L q its i
    rw[Int.toNat_natCast]at e
    exact⟨_,_,⟨_,_,e,by simp only[h1,h2,h4,decide_true,rpS,decide_false,beq_self_eq_true,bne_self_eq_false,Bool.not_true,Bool.not_false,Bool.not_not,cond_true,cond_false,Bool.true_and,Bool.and_true,Bool.false_and,Bool.and_false,Bool.or_true,Bool.true_or,Bool.or_false,Bool.false_or,Bool.and_eq_true,Bool.not_eq_true',decide_eq_true_eq,decide_eq_false_iff_not,true_and,and_true]<;>omega,by simp⟩⟩
   |true=>
    unfold tI FL at h
    rw[show itB (its.getD i aI).ks=true from h1,show cU (its.getD i aI).nm=true from h2]at h
    have h0:decide ((i:Int)>0)=true:=by
     cases h0:decide ((i:Int)>0)with
     |true=>rfl
     |false=>rw[h0]at h;cases h
    rw[h0]at h
    have h3:cW (its.getD (i-1) aI).1 (its.getD i aI).1=false:=by simpa using h
    have e:=a0M q its i
    rw[fP h0 (by omega),Int.toNat_natCast,Int.toNat_natCast]at e
    have:=of_decide_eq_true h0
    exact⟨_,_,⟨_,_,e,by simp only[h0,h1,h2,h3,h4,decide_true,rpS,decide_false,beq_self_eq_true,bne_self_eq_false,Bool.not_true,Bool.not_false,Bool.not_not,cond_true,cond_false,Bool.true_and,Bool.and_true,Bool.false_and,Bool.and_false,Bool.or_true,Bool.true_or,Bool.or_false,Bool.false_or,Bool.and_eq_true,Bool.not_eq_true',decide_eq_true_eq,decide_eq_false_iff_not,true_and,and_true]<;>omega,by simp⟩⟩
theorem lJS (q:Int) (its:List Itm) (n i:Int) (nm:ByteArray) (ks:List PK) (h:sdK ks=true):aN none Tryz.prog 0 (.block 2 (.loop (a5 2 (a0 fOS)))) (JOS q its n i nm ks 0) fun e t=>e=(bif ks.all okR then .normal else .ret)∧t=bif ks.all okR then ZOS q its n i nm ks else WOS q its n i nm ks:=by
 obtain⟨h1,h2⟩:=rF h
 rw[←zB (d:=PK0)]
 refine aN.all (ro:=none) hT kM bF ks.length (fun j=>okR (ks.getD j PK0)) (fun j=>JOS q its n i nm ks j) (ZOS q its n i nm ks) (WOS q its n i nm ks) .ret (.inr rfl) (a6 fOS 2) (a8 fOS 2) (fun _=>[]) (fun _ _=>aK.nil) (fun j hj h=> ?_) (fun j hj h=> ?_) ⟨_,_,⟨_,_,XP q its n i nm ks ks.length,by simp,by simp⟩⟩
 ·obtain⟨h3,h4⟩:=h2 j
  have h:okR (ks.getD j PK0)=true:=h
  unfold okR at h
  rw[Bool.and_eq_true,Bool.not_eq_true']at h
  have k1:bB (ks.getD j PK0).1 (ks.getD j PK0).2 (ks.getD j PK0).3 (ks.getD j PK0).4 (ks.getD j PK0).5 (ks.getD j PK0).6 (ks.getD j PK0).7 (ks.getD j PK0).8=true:=h.1
  have k2:(ks.getD j PK0).5=false:=h.2
  rw[k2]at k1
  have e:=XO q its n i nm ks j
  rw[aB (i:=(j:Int)+1) (by omega) (by omega),Int.toNat_natCast]at e
  exact⟨_,_,⟨_,_,e,by simp only[h3,h4,k1,k2,decide_true,rpS,decide_false,beq_self_eq_true,bne_self_eq_false,Bool.not_true,Bool.not_false,Bool.not_not,cond_true,cond_false,Bool.true_and,Bool.and_true,Bool.false_and,Bool.and_false,Bool.or_true,Bool.true_or,Bool.or_false,Bool.false_or,Bool.and_eq_true,Bool.not_eq_true',decide_eq_true_eq,decide_eq_false_iff_not,true_and,and_true]<;>omega,by simp⟩⟩
 ·obtain⟨h3,h4⟩:=h2 j
  have h:okR (ks.getD j PK0)=false:=h
  unfold okR at h
  cases k1:(ks.getD j PK0).ok with
  |false=>
   have k1:bB (ks.getD j PK0).1 (ks.getD j PK0).2 (ks.getD j PK0).3 (ks.getD j PK0).4 (ks.getD j PK0).5 (ks.getD j PK0).6 (ks.getD j PK0).7 (ks.getD j PK0).8=false:=k1
   have e:=XM q its n i nm ks j
   rw[Int.toNat_natCast]at e
   exact⟨_,_,⟨_,_,e,by simp only[h3,h4,k1,decide_true,rpS,decide_false,beq_self_eq_true,bne_self_eq_false,Bool.not_true,Bool.not_false,Bool.not_not,cond_true,cond_false,Bool.true_and,Bool.and_true,Bool.false_and,Bool.and_false,Bool.or_true,Bool.true_or,Bool.or_false,Bool.false_or,Bool.and_eq_true,Bool.not_eq_true',decide_eq_true_eq,decide_eq_false_iff_not,true_and,and_true]<;>omega,by simp⟩⟩
  |true=>
   rw[k1]at h
   have k2:(ks.getD j PK0).5=true:=by simpa using h
   have k1:bB (ks.getD j PK0).1 (ks.getD j PK0).2 (ks.getD j PK0).3 (ks.getD j PK0).4 (ks.getD j PK0).5 (ks.getD j PK0).6 (ks.getD j PK0).7 (ks.getD j PK0).8=true:=k1
   rw[k2]at k1
   have e:=XN q its n i nm ks j
   rw[Int.toNat_natCast]at e
   exact⟨_,_,⟨_,_,e,by simp only[h3,h4,k1,k2,decide_true,rpS,decide_false,beq_self_eq_true,bne_self_eq_false,Bool.not_true,Bool.not_false,Bool.not_not,cond_true,cond_false,Bool.true_and,Bool.and_true,Bool.false_and,Bool.and_false,Bool.or_true,Bool.true_or,Bool.or_false,Bool.false_or,Bool.and_eq_true,Bool.not_eq_true',decide_eq_true_eq,decide_eq_false_iff_not,true_and,and_true]<;>omega,by simp⟩⟩
theorem KM {β:Type} {f:Nat→Bool} {g:Nat→β→β}: ∀k i b,match cD (β:=β) (γ:=β) (fun i n=>bif f i then .inl (g i n)else .inr n) k i b with
  |.inl c=>cH f k i=true∧c=bH g k i b
  |.inr _=>cH f k i=false:=by
 intro k
 induction k with
 |zero=>intro i b;exact⟨rfl,rfl⟩
 |succ k ih=>
  intro i b
  simp only[cD,cH,bH]
  cases h:f i with
  |false=>rfl
  |true=>
   have:=ih (i+1) (g i b)
   simpa only[cond_true,Bool.true_and]using this
noncomputable def xZ (q:Int) (its:List Itm) (i:Nat) (n:Int):List (Nat×LC):=bif (its.getD i aI).ks.all okR then [(2,⟨a6 fOS 2,JOS q its n i (its.getD i aI).nm (its.getD i aI).ks 0,.normal,ZOS q its n i (its.getD i aI).nm (its.getD i aI).ks⟩)]else [(2,⟨a6 fOS 2,JOS q its n i (its.getD i aI).nm (its.getD i aI).ks 0,.ret,WOS q its n i (its.getD i aI).nm (its.getD i aI).ks⟩)]
theorem MV (q:Int) (its:List Itm) (h:sdI its=true) (i:Nat) (n:Int):aK none Tryz.prog 0 (xZ q its i n) (a5 0 (a0 fOS)):=by
 have g:=lJS q its n i (its.getD i aI).nm (its.getD i aI).ks ((l6 h).2 i)
 unfold xZ
 cases ha:(its.getD i aI).ks.all okR with
 |false=>rw[ha]at g;exact aK.blk (b:=.loop (a5 2 (a0 fOS))) (by kernel_rfl) g aK.nil
 |true=>rw[ha]at g;exact aK.blk (b:=.loop (a5 2 (a0 fOS))) (by kernel_rfl) g aK.nil
theorem lOS (q:Int) (its:List Itm) (h:sdI its=true):match cD (β:=Int) (γ:=Int) (fun i n=>bif tI its i then .inl (usS its i n)else .inr n) its.length 0 0 with
  |.inl c=>aN none Tryz.prog 0 (.block 0 (.loop (a5 0 (a0 fOS)))) (IOS q its 0 0) fun e t=>e=.normal∧t=XOS q its c
  |.inr c=>aN none Tryz.prog 0 (.block 0 (.loop (a5 0 (a0 fOS)))) (IOS q its 0 0) fun e t=>e=.ret∧t=YOS q its c:=by
 obtain⟨hn,hk⟩:=l6 h
 have g:=aN.countE (ro:=none) hT kM bF (m:=0) (id:=0) (body:=a5 0 (a0 fOS)) (β:=Int) (γ:=Int) its.length (fun _ _=>True) (fun i n=>IOS q its n i) (fun n=>XOS q its n) (fun n=>YOS q its n) .ret (.inr rfl)
  (fun i n=>bif tI its i then .inl (usS its i n)else .inr n) (a6 fOS 0) (a8 fOS 0) (xZ q its) (fun i n _ _=>MV q its h i n) (fun i n hi _=> ?_) (fun n _=>⟨_,_,⟨_,_,a0W q its n its.length [],by simp,by simp⟩⟩) 0 trivial
 ·split<;>rename_i hq<;>rw[hq]at g<;>exact g
 ·have h4:sdK (its.getD i aI).2=true:=hk i
  cases h2:cU (its.getD i aI).1 with
  |false=>
   refine .inr ⟨n,by unfold tI;rw[show cU (its.getD i aI).nm=false from h2,Bool.false_and,Bool.and_false];rfl, ?_⟩
   unfold xZ
   cases ha:(its.getD i aI).ks.all okR with
   |true=>
    have e:=a0Q q its n i
    simp only[Int.toNat_natCast]at e
    exact⟨_,_,⟨_,_,e,by simp only[h2,decide_true,rpS,decide_false,beq_self_eq_true,bne_self_eq_false,Bool.not_true,Bool.not_false,Bool.not_not,cond_true,cond_false,Bool.true_and,Bool.and_true,Bool.false_and,Bool.and_false,Bool.or_true,Bool.true_or,Bool.or_false,Bool.false_or,Bool.and_eq_true,Bool.not_eq_true',decide_eq_true_eq,decide_eq_false_iff_not,true_and,and_true]<;>omega,by simp⟩⟩
   |false=>
    have e:=a1N q its n i
    simp only[Int.toNat_natCast]at e
    exact⟨_,_,⟨_,_,e,by simp only[h2,decide_true,rpS,decide_false,beq_self_eq_true,bne_self_eq_false,Bool.not_true,Bool.not_false,Bool.not_not,cond_true,cond_false,Bool.true_and,Bool.and_true,Bool.false_and,Bool.and_false,Bool.or_true,Bool.true_or,Bool.or_false,Bool.false_or,Bool.and_eq_true,Bool.not_eq_true',decide_eq_true_eq,decide_eq_false_iff_not,true_and,and_true]<;>omega,by simp⟩⟩
  |true=>
   cases h0:FL its i with
   |true=>
    have h0':=h0
    unfold FL at h0'
    rw[Bool.and_eq_true]at h0'
    have h3:cW (its.getD (i-1) aI).1 (its.getD i aI).1=false:=by simpa using h0'.2
    have h00:=h0'.1
    have:=of_decide_eq_true h00
    refine .inr ⟨n,by unfold tI;rw[h0,Bool.not_true,Bool.and_false,Bool.and_false];rfl, ?_⟩
    unfold xZ
    cases ha:(its.getD i aI).ks.all okR with
    |true=>
     have e:=a0R q its n i
     rw[fP h00 (by omega)]at e
     simp only[Int.toNat_natCast]at e
     exact⟨_,_,⟨_,_,e,by simp only[h2,h3,h00,decide_true,rpS,decide_false,beq_self_eq_true,bne_self_eq_false,Bool.not_true,Bool.not_false,Bool.not_not,cond_true,cond_false,Bool.true_and,Bool.and_true,Bool.false_and,Bool.and_false,Bool.or_true,Bool.true_or,Bool.or_false,Bool.false_or,Bool.and_eq_true,Bool.not_eq_true',decide_eq_true_eq,decide_eq_false_iff_not,true_and,and_true]<;>omega,by simp⟩⟩
    |false=>
     have e:=a1O q its n i
     rw[fP h00 (by omega)]at e
     simp only[Int.toNat_natCast]at e
     exact⟨_,_,⟨_,_,e,by simp only[h2,h3,h00,decide_true,rpS,decide_false,beq_self_eq_true,bne_self_eq_false,Bool.not_true,Bool.not_false,Bool.not_not,cond_true,cond_false,Bool.true_and,Bool.and_true,Bool.false_and,Bool.and_false,Bool.or_true,Bool.true_or,Bool.or_false,Bool.false_or,Bool.and_eq_true,Bool.not_eq_true',decide_eq_true_eq,decide_eq_false_iff_not,true_and,and_true]<;>omega,by simp⟩⟩
   |false=>
    have tq:tI its i=itB (its.getD i aI).2:=by unfold tI;rw[h0,show cU (its.getD i aI).nm=true from h2];simp
    rw[tq]
    have h3:decide ((i:Int)>0)=true→cW (its.getD (i-1) aI).1 (its.getD i aI).1=true:=fun h00=>by
     unfold FL at h0
     rw[h00]at h0
     simpa using h0
    cases ha:(its.getD i aI).ks.all okR with
    |false=>
     have hi':itB (its.getD i aI).2=false:=by unfold itB;rw[show(its.getD i aI).2.all okR=false from ha];rfl
     rw[hi']
     have el:xZ q its i n=[(2,⟨a6 fOS 2,JOS q its n i (its.getD i aI).nm (its.getD i aI).ks 0,.ret,WOS q its n i (its.getD i aI).nm (its.getD i aI).ks⟩)]:=by unfold xZ;rw[ha];rfl
     rw[el]
     cases h00:decide ((i:Int)>0)with
     |true=>
      have e:=a1P q its n i
      have h3:=h3 h00
      rw[fP h00 (by omega)]at e
      simp only[Int.toNat_natCast]at e
      exact .inr ⟨n,rfl,_,_,⟨_,_,e,by simp only[h2,h3,h00,decide_true,rpS,decide_false,beq_self_eq_true,bne_self_eq_false,Bool.not_true,Bool.not_false,Bool.not_not,cond_true,cond_false,Bool.true_and,Bool.and_true,Bool.false_and,Bool.and_false,Bool.or_true,Bool.true_or,Bool.or_false,Bool.false_or,Bool.and_eq_true,Bool.not_eq_true',decide_eq_true_eq,decide_eq_false_iff_not,true_and,and_true]<;>omega,by simp⟩⟩
     |false=>
      have e:=a1Q q its n i
      simp only[Int.toNat_natCast]at e
      exact .inr ⟨n,rfl,_,_,⟨_,_,e,by simp only[h2,h00,decide_true,rpS,decide_false,beq_self_eq_true,bne_self_eq_false,Bool.not_true,Bool.not_false,Bool.not_not,cond_true,cond_false,Bool.true_and,Bool.and_true,Bool.false_and,Bool.and_false,Bool.or_true,Bool.true_or,Bool.or_false,Bool.false_or,Bool.and_eq_true,Bool.not_eq_true',decide_eq_true_eq,decide_eq_false_iff_not,true_and,and_true]<;>omega,by simp⟩⟩
    |true=>
     have ha':(its.getD i aI).2.all okR=true:=ha
     have el:xZ q its i n=[(2,⟨a6 fOS 2,JOS q its n i (its.getD i aI).nm (its.getD i aI).ks 0,.normal,ZOS q its n i (its.getD i aI).nm (its.getD i aI).ks⟩)]:=by unfold xZ;rw[ha];rfl
     rw[el]
     cases hb:itB (its.getD i aI).2 with
     |false=>
      cases h00:decide ((i:Int)>0)with
      |true=>
       have e:=a0S q its n i
       have h3:=h3 h00
       rw[fP h00 (by omega)]at e
       simp only[Int.toNat_natCast]at e
       exact .inr ⟨n,rfl,_,_,⟨_,_,e,by simp only[h2,h3,h00,h4,ha',hb,decide_true,rpS,decide_false,beq_self_eq_true,bne_self_eq_false,Bool.not_true,Bool.not_false,Bool.not_not,cond_true,cond_false,Bool.true_and,Bool.and_true,Bool.false_and,Bool.and_false,Bool.or_true,Bool.true_or,Bool.or_false,Bool.false_or,Bool.and_eq_true,Bool.not_eq_true',decide_eq_true_eq,decide_eq_false_iff_not,true_and,and_true]<;>omega,by simp⟩⟩
      |false=>
       have e:=a0U q its n i
       simp only[Int.toNat_natCast]at e
       exact .inr ⟨n,rfl,_,_,⟨_,_,e,by simp only[h2,h00,h4,ha',hb,decide_true,rpS,decide_false,beq_self_eq_true,bne_self_eq_false,Bool.not_true,Bool.not_false,Bool.not_not,cond_true,cond_false,Bool.true_and,Bool.and_true,Bool.false_and,Bool.and_false,Bool.or_true,Bool.true_or,Bool.or_false,Bool.false_or,Bool.and_eq_true,Bool.not_eq_true',decide_eq_true_eq,decide_eq_false_iff_not,true_and,and_true]<;>omega,by simp⟩⟩
     |true=>
      cases h00:decide ((i:Int)>0)with
      |true=>
       have e:=a0T q its n i
       have h3:=h3 h00
       rw[aB (i:=(i:Int)+1) (by omega) (by omega),fP h00 (by omega)]at e
       simp only[Int.toNat_natCast]at e
       exact .inl ⟨_,rfl,trivial,_,_,⟨_,_,e,by simp only[h2,h3,h00,h4,ha',hb,decide_true,rpS,decide_false,beq_self_eq_true,bne_self_eq_false,Bool.not_true,Bool.not_false,Bool.not_not,cond_true,cond_false,Bool.true_and,Bool.and_true,Bool.false_and,Bool.and_false,Bool.or_true,Bool.true_or,Bool.or_false,Bool.false_or,Bool.and_eq_true,Bool.not_eq_true',decide_eq_true_eq,decide_eq_false_iff_not,true_and,and_true]<;>omega,by simp⟩⟩
      |false=>
       have e:=a0V q its n i
       rw[aB (i:=(i:Int)+1) (by omega) (by omega)]at e
       simp only[Int.toNat_natCast]at e
       exact .inl ⟨_,rfl,trivial,_,_,⟨_,_,e,by simp only[h2,h00,h4,ha',hb,decide_true,rpS,decide_false,beq_self_eq_true,bne_self_eq_false,Bool.not_true,Bool.not_false,Bool.not_not,cond_true,cond_false,Bool.true_and,Bool.and_true,Bool.false_and,Bool.and_false,Bool.or_true,Bool.true_or,Bool.or_false,Bool.false_or,Bool.and_eq_true,Bool.not_eq_true',decide_eq_true_eq,decide_eq_false_iff_not,true_and,and_true]<;>omega,by simp⟩⟩
def PT:aM:=fun args h=>
 match args,h with
 |[.agg [.int .i64 q,.view _ (.typ .itm its) n 2 _]],[]=>
  some (.c (.bool (shB q its)),[],[decide (n=its.length),sdI its])
 |_,_=>none
theorem mOI:aS Tryz.prog 18 PT:=by
 intro args h res h' o hnorm he ho
 unfold PT at he
 split at he
 case h_2=>cases he
 rename_i q nl its n cap
 simp only[Option.some.injEq,Prod.mk.injEq]at he
 obtain⟨rfl,rfl,rfl⟩:=he
 simp only[List.mem_cons,List.not_mem_nil,or_false,forall_eq_or_imp,forall_eq,decide_eq_true_eq]at ho
 obtain⟨o1,o2⟩:=ho
 simp only[b8,AV.norm,bA,aF.norm,Con.size,List.cons.injEq,AV.c.injEq,AV.agg.injEq,aF.view.injEq,aL,true_and,and_true]at hnorm
 obtain⟨rfl,_,rfl⟩:=hnorm
 subst o1
 have g:=lOI q its o2
 have hn:=decide_eq_true (l6 o2).1
 unfold shB
 cases ha:cH (tI its) its.length 0 with
 |false=>rw[ha]at g;exact bQ kM (a58 q its) (by kernel_rfl) (by kernel_rfl) (by kernel_rfl) g (by simp) rfl
 |true=>
  rw[ha]at g
  cases hb:bet q 0 12 with
  |false=>exact bQ kM (a49 q its) (by kernel_rfl) (by kernel_rfl) (by kernel_rfl) g (by simp) (by simp only[hb,decide_true,rpS,decide_false,beq_self_eq_true,bne_self_eq_false,Bool.not_true,Bool.not_false,Bool.not_not,cond_true,cond_false,Bool.true_and,Bool.and_true,Bool.false_and,Bool.and_false,Bool.or_true,Bool.true_or,Bool.or_false,Bool.false_or,Bool.and_eq_true,Bool.not_eq_true',decide_eq_true_eq,decide_eq_false_iff_not,true_and,and_true])
  |true=>
   have e:=a48 q its
   rw[hb]at e
   exact bQ kM e (by kernel_rfl) (by kernel_rfl) (by kernel_rfl) g (by simp) (by simp only[hn,decide_true,rpS,decide_false,beq_self_eq_true,bne_self_eq_false,Bool.not_true,Bool.not_false,Bool.not_not,cond_true,cond_false,Bool.true_and,Bool.and_true,Bool.false_and,Bool.and_false,Bool.or_true,Bool.true_or,Bool.or_false,Bool.false_or,Bool.and_eq_true,Bool.not_eq_true',decide_eq_true_eq,decide_eq_false_iff_not,true_and,and_true])
def PU:aM:=fun args h=>
 match args,h with
 |[.agg [.int .i64 q,.view _ (.typ .itm its) n 2 _]],[]=>
  some (.c (.bool (shB q its)),[],[decide (n=its.length),sdI its])
 |_,_=>none
theorem mOS:aS Tryz.prog 16 PU:=by
 intro args h res h' o hnorm he ho
 unfold PU at he
 split at he
 case h_2=>cases he
 rename_i q nl its n cap
 simp only[Option.some.injEq,Prod.mk.injEq]at he
 obtain⟨rfl,rfl,rfl⟩:=he
 simp only[List.mem_cons,List.not_mem_nil,or_false,forall_eq_or_imp,forall_eq,decide_eq_true_eq]at ho
 obtain⟨o1,o2⟩:=ho
 simp only[b8,AV.norm,bA,aF.norm,Con.size,List.cons.injEq,AV.c.injEq,AV.agg.injEq,aF.view.injEq,aL,true_and,and_true]at hnorm
 obtain⟨rfl,_,rfl⟩:=hnorm
 subst o1
 have g:=lOS q its o2
 have c:=KM (f:=tI its) (g:=usS its) its.length 0 0
 unfold shB jM
 generalize cD (β:=Int) (γ:=Int) (fun i n=>bif tI its i then .inl (usS its i n)else .inr n) its.length 0 0=r at g c
 rcases r with r|r
 ·obtain⟨c1,c2⟩:=c
  rw[c1,←c2]
  cases hb:bet q 0 12 with
  |false=>exact bQ kM (a4B q its r) (by kernel_rfl) (by kernel_rfl) (by kernel_rfl) g (by simp) (by simp only[hb,decide_true,rpS,decide_false,beq_self_eq_true,bne_self_eq_false,Bool.not_true,Bool.not_false,Bool.not_not,cond_true,cond_false,Bool.true_and,Bool.and_true,Bool.false_and,Bool.and_false,Bool.or_true,Bool.true_or,Bool.or_false,Bool.false_or,Bool.and_eq_true,Bool.not_eq_true',decide_eq_true_eq,decide_eq_false_iff_not,true_and,and_true])
  |true=>
   have e:=a4A q its r
   rw[hb]at e
   exact bQ kM e (by kernel_rfl) (by kernel_rfl) (by kernel_rfl) g (by simp) (by simp only[decide_true,rpS,decide_false,beq_self_eq_true,bne_self_eq_false,Bool.not_true,Bool.not_false,Bool.not_not,cond_true,cond_false,Bool.true_and,Bool.and_true,Bool.false_and,Bool.and_false,Bool.or_true,Bool.true_or,Bool.or_false,Bool.false_or,Bool.and_eq_true,Bool.not_eq_true',decide_eq_true_eq,decide_eq_false_iff_not,true_and,and_true])
 ·rw[c]
  exact bQ kM (a59 q its r) (by kernel_rfl) (by kernel_rfl) (by kernel_rfl) g (by simp) rfl
end
section
deriving instance DecidableEq for PK
deriving instance DecidableEq for Itm
noncomputable abbrev gU:=Tryz.f154
noncomputable def oE (a:List PK) (l i:Int):St:=aR gU.ntmps [(0,.c (.view none (.typ .pk a) a.length 8 none)),(1,.c (.int .i64 l)),(5,.c (.int .i64 i))] []
noncomputable def LW (a:List PK) (l:Int):St:=aR gU.ntmps [(1,.c (.int .i64 l))] []
noncomputable def M1 (a:List PK) (l:Int):St:=aR gU.ntmps [(1,.c (.int .i64 l)),(4,.c (.int .i64 (-1)))] []
theorem TX (a:List PK) (l i:Int):aC 0 (a6 gU 0) (a8 gU 0) (aD tt (a9 dG) ([]) 0 100 (a5 0 (a0 gU)) (oE a l i) [(0,true),(0,true)])=
  some (.ret,(decide (i<(↑a.length:Int))&&(decide (0≤i)&&(decide (i<(↑a.length:Int))&&((decide (i.toNat<a.length)&&true)&&(decide ((a.getD i.toNat PK0).2.length≤9223372036854775807)&&(decide ((a.getD i.toNat PK0).3.length≤9223372036854775807)&&(decide ((a.getD i.toNat PK0).4.length≤9223372036854775807)&&(decide ((a.getD i.toNat PK0).7.length≤9223372036854775807)&&(decide (0≤l)&&(decide (l≤1048576)&&((decide (szF l ((a.getD i.toNat PK0).2.length+(a.getD i.toNat PK0).3.length+(a.getD i.toNat PK0).4.length+(a.getD i.toNat PK0).7.length)<0))&&true))))))))))),[],M1 a (szF l ((a.getD i.toNat PK0).2.length+(a.getD i.toNat PK0).3.length+(a.getD i.toNat PK0).4.length+(a.getD i.toNat PK0).7.length))):=by kernel_rfl
theorem TY (a:List PK) (l i:Int):aC 0 (a6 gU 0) (a8 gU 0) (aD tt (a9 dG) ([]) 0 100 (a5 0 (a0 gU)) (oE a l i) [(0,true),(0,false)])=
  some (.normal,(decide (i<(↑a.length:Int))&&(decide (0≤i)&&(decide (i<(↑a.length:Int))&&((decide (i.toNat<a.length)&&true)&&(decide ((a.getD i.toNat PK0).2.length≤9223372036854775807)&&(decide ((a.getD i.toNat PK0).3.length≤9223372036854775807)&&(decide ((a.getD i.toNat PK0).4.length≤9223372036854775807)&&(decide ((a.getD i.toNat PK0).7.length≤9223372036854775807)&&(decide (0≤l)&&(decide (l≤1048576)&&((!decide (szF l ((a.getD i.toNat PK0).2.length+(a.getD i.toNat PK0).3.length+(a.getD i.toNat PK0).4.length+(a.getD i.toNat PK0).7.length)<0))&&true))))))))))),[],oE a (szF l ((a.getD i.toNat PK0).2.length+(a.getD i.toNat PK0).3.length+(a.getD i.toNat PK0).4.length+(a.getD i.toNat PK0).7.length)) (IntKind.i64.wrap (i+1))):=by kernel_rfl
theorem TZ (a:List PK) (l i:Int):aC 0 (a6 gU 0) (a8 gU 0) (aD tt (a9 dG) ([]) 0 100 (a5 0 (a0 gU)) (oE a l i) [(0,false)])=
  some (.exit 0,((!decide (i<(↑a.length:Int)))&&true),[],LW a l):=by kernel_rfl
theorem WG (a:List PK) (l k:Int) (lcv:List (Nat×LC)):aE tt (a9 dG) (lcv) 100 gU [.c (.view none (.typ .pk a) a.length 8 none),.c (.int .i64 l)] [] [(0,true)]=
  some ⟨.c (.int .i64 (-1)),[],((decide (IntKind.i64.wrap (l-(↑a.length:Int))<0))&&true),[]⟩:=by kernel_rfl
theorem WH (a:List PK) (l k:Int):aE tt (a9 dG) ([(0,⟨a6 gU 0,oE a (IntKind.i64.wrap (l-(a.length:Int))) 0,.normal,LW a k⟩)]) 100 gU [.c (.view none (.typ .pk a) a.length 8 none),.c (.int .i64 l)] [] [(0,false)]=
  some ⟨.c (.int .i64 k),[],((!decide (IntKind.i64.wrap (l-(↑a.length:Int))<0))&&true),[oE a (IntKind.i64.wrap (l-(a.length:Int))) 0=oE a (IntKind.i64.wrap (l-(a.length:Int))) 0]⟩:=by kernel_rfl
theorem WL (a:List PK) (l k:Int):aE tt (a9 dG) ([(0,⟨a6 gU 0,oE a (IntKind.i64.wrap (l-(a.length:Int))) 0,.ret,M1 a k⟩)]) 100 gU [.c (.view none (.typ .pk a) a.length 8 none),.c (.int .i64 l)] [] [(0,false)]=
  some ⟨.c (.int .i64 (-1)),[],((!decide (IntKind.i64.wrap (l-(↑a.length:Int))<0))&&true),[oE a (IntKind.i64.wrap (l-(a.length:Int))) 0=oE a (IntKind.i64.wrap (l-(a.length:Int))) 0]⟩:=by kernel_rfl
noncomputable abbrev mX:=Tryz.f165
noncomputable def yV (a:List PK) (c:List PK) (i:Int):St:=aR mX.ntmps [(0,.c (.view none (.typ .pk a) a.length 8 none)),(3,.c (.sl 0 0 a.length 8 none)),(4,.c (.int .i64 i))] [.live (.typ .pk c)]
noncomputable def LY (a:List PK) (c:List PK):St:=aR mX.ntmps [(3,.c (.sl 0 0 a.length 8 none))] [.live (.typ .pk c)]
theorem U2 (a:List PK) (c:List PK) (i:Int):aC 0 (a6 mX 0) (a8 mX 0) (aD tt (a9 dG) ([]) 0 100 (a5 0 (a0 mX)) (yV a c i) [(0,true)])=
  some (.normal,(decide (i<(↑a.length:Int))&&(decide (0≤i)&&(decide (i<(↑a.length:Int))&&((decide (i.toNat<a.length)&&true)&&((decide ((a.getD i.toNat PK0).2.length≤274877906944)&&(decide ((a.getD i.toNat PK0).3.length≤274877906944)&&(decide ((a.getD i.toNat PK0).4.length≤274877906944)&&true))&&(decide ((a.getD i.toNat PK0).7.length≤274877906944)&&true))&&(decide (0≤i)&&(decide (i<(↑a.length:Int))&&(decide ((a.getD i.toNat PK0).2.length=(a.getD i.toNat PK0).2.length)&&(decide ((a.getD i.toNat PK0).3.length=(a.getD i.toNat PK0).3.length)&&(decide ((a.getD i.toNat PK0).4.length=(a.getD i.toNat PK0).4.length)&&(decide ((a.getD i.toNat PK0).7.length=(a.getD i.toNat PK0).7.length)&&((decide (i.toNat<c.length)&&true)&&true)))))))))))),[],yV a (c.set i.toNat (a.getD i.toNat PK0)) (IntKind.i64.wrap (i+1))):=by kernel_rfl
theorem U3 (a:List PK) (c:List PK) (i:Int):aC 0 (a6 mX 0) (a8 mX 0) (aD tt (a9 dG) ([]) 0 100 (a5 0 (a0 mX)) (yV a c i) [(0,false)])=
  some (.exit 0,((!decide (i<(↑a.length:Int)))&&true),[],LY a c):=by kernel_rfl
theorem WJ (a:List PK):aE tt (a9 dG) ([(0,⟨a6 mX 0,yV a (List.replicate a.length PK0) 0,.normal,LY a a⟩)]) 100 mX [.c (.view none (.typ .pk a) a.length 8 none)] [] []=
  some ⟨.c (.sl 0 0 a.length 8 none),[.live (.typ Ty.pk a)],(decide ((↑a.length:Int)≤(↑a.length:Int))&&((decide ((↑a.length:Int)≤274877906944))&&true)),[yV a (List.replicate a.length PK0) 0=yV a (List.replicate a.length PK0) 0]⟩:=by kernel_rfl
noncomputable abbrev mU:=Tryz.f170
noncomputable def yT (a:List PK) (i:Int):St:=aR mU.ntmps [(0,.c (.view none (.typ .pk a) a.length 8 none)),(1,.c (.view none (.typ .pk a) a.length 8 none)),(5,.c (.int .i64 i))] []
noncomputable def LU (a:List PK):St:=aR mU.ntmps [] []
theorem TS (a:List PK) (i:Int):aC 0 (a6 mU 0) (a8 mU 0) (aD tt (a9 dG) ([]) 0 100 (a5 0 (a0 mU)) (yT a i) [(0,true)])=
  some (.normal,(decide (i<(↑a.length:Int))&&(decide (0≤i)&&(decide (i<(↑a.length:Int))&&((decide (i.toNat<a.length)&&true)&&(decide (0≤i)&&(decide (i<(↑a.length:Int))&&((decide (i.toNat<a.length)&&true)&&((!(a.getD i.toNat PK0).1 !=(a.getD i.toNat PK0).1&&(decide ((a.getD i.toNat PK0).2.length≤274877906944)&&(decide ((a.getD i.toNat PK0).2=(a.getD i.toNat PK0).2)&&(decide ((a.getD i.toNat PK0).3.length≤274877906944)&&(decide ((a.getD i.toNat PK0).3=(a.getD i.toNat PK0).3)&&(decide ((a.getD i.toNat PK0).4.length≤274877906944)&&(decide ((a.getD i.toNat PK0).4=(a.getD i.toNat PK0).4)&&true))))))&&(!!(a.getD i.toNat PK0).5==(a.getD i.toNat PK0).5&&(!(a.getD i.toNat PK0).6 !=(a.getD i.toNat PK0).6&&(decide ((a.getD i.toNat PK0).7.length≤274877906944)&&(decide ((a.getD i.toNat PK0).7=(a.getD i.toNat PK0).7)&&(!(a.getD i.toNat PK0).8 !=(a.getD i.toNat PK0).8&&true))))))&&true)))))))),[],yT a (IntKind.i64.wrap (i+1))):=by kernel_rfl
theorem TT (a:List PK) (i:Int):aC 0 (a6 mU 0) (a8 mU 0) (aD tt (a9 dG) ([]) 0 100 (a5 0 (a0 mU)) (yT a i) [(0,false)])=
  some (.exit 0,((!decide (i<(↑a.length:Int)))&&true),[],LU a):=by kernel_rfl
theorem WD (a:List PK):aE tt (a9 dG) ([(0,⟨a6 mU 0,yT a 0,.normal,LU a⟩)]) 100 mU [.c (.view none (.typ .pk a) a.length 8 none),.c (.view none (.typ .pk a) a.length 8 none)] [] [(0,false)]=
  some ⟨.c (.bool true),[],((!(↑a.length:Int)!=(↑a.length:Int))&&true),[yT a 0=yT a 0]⟩:=by kernel_rfl
def nS (g:Nat→Nat):Nat→Nat→Nat
 |0,_=>0
 |n+1,i=>g i+nS g n (i+1)
theorem yG {g:Nat→Nat}: ∀ {n i k:Nat},i≤k→k<i+n→g k≤nS g n i
 |0,i,k,h1,h2=>absurd h2 (by omega)
 |n+1,i,k,h1,h2=>by
  by_cases e:k=i
  ·subst e;simp only[nS];omega
  ·have:=yG (g:=g) (n:=n) (i:=i+1) (k:=k) (by omega) (by omega)
   simp only[nS];omega
theorem EI {g:Nat→Nat}: ∀k i l,0≤l→match cD (β:=Int) (γ:=Int) (fun i l=>bif decide (szF l (g i)<0)then .inr (szF l (g i))else .inl (szF l (g i))) k i l with
  |.inl c=>c=l-(nS g k i:Nat)∧0≤c
  |.inr _=>l-(nS g k i:Nat)<0:=by
 intro k
 induction k with
 |zero=>intro i l h;exact⟨by simp[nS],h⟩
 |succ k ih=>
  intro i l h
  simp only[cD,nS]
  by_cases c:l-(g i:Int)<0
  ·rw[a8W c]
   show l-_<0
   omega
  ·rw[a8X c]
   have:=ih (i+1) (l-(g i:Int)) (by omega)
   rw[decide_eq_false c]
   simp only[cond_false]
   split<;>rename_i hq<;>rw[hq]at this
   ·exact⟨by rw[this.1];omega,this.2⟩
   ·have:=this;omega
def PK.zs (x:PK):Nat:=x.a.length+x.b.length+x.c.length+x.d.length
def gW (ks:List PK):Nat:=ks.length+nS (fun i=>(ks.getD i PK0).zs) ks.length 0
def Itm.zs (x:Itm):Nat:=x.nm.size+gW x.ks
def jU (its:List Itm):Nat:=its.length+nS (fun i=>(its.getD i aI).zs) its.length 0
def PK.sm (x:PK):Bool:=decide (x.a.length≤9223372036854775807)&&(decide (x.b.length≤9223372036854775807)&&(decide (x.c.length≤9223372036854775807)&&decide (x.d.length≤9223372036854775807)))
def u7 (ks:List PK):Bool:=decide (ks.length≤9223372036854775807)&&ks.all PK.sm
def Itm.sm (x:Itm):Bool:=decide (x.nm.size≤9223372036854775807)&&u7 x.ks
def pG (its:List Itm):Bool:=decide (its.length≤9223372036854775807)&&its.all Itm.sm
theorem PK.sm_iff {x:PK}:x.sm=true↔decide (x.2.length≤9223372036854775807)=true∧decide (x.3.length≤9223372036854775807)=true∧decide (x.4.length≤9223372036854775807)=true∧decide (x.7.length≤9223372036854775807)=true:=by
 unfold PK.sm;simp only[Bool.and_eq_true,rpS]
theorem AS {a:List PK} (h:u7 a=true):a.length≤9223372036854775807∧ ∀i,i<a.length→(a.getD i PK0).sm=true:=by
 simp only[u7,Bool.and_eq_true,rpS,decide_eq_true_eq]at h
 exact⟨h.1,fun i hi=>List.all_eq_true.1 h.2 _ (dA (d:=PK0) hi)⟩
theorem AR {a:List Itm} (h:pG a=true):a.length≤9223372036854775807∧ ∀i,i<a.length→(a.getD i aI).sm=true:=by
 simp only[pG,Bool.and_eq_true,rpS,decide_eq_true_eq]at h
 exact⟨h.1,fun i hi=>List.all_eq_true.1 h.2 _ (dA (d:=aI) hi)⟩
def PK.md (x:PK):Bool:=decide (x.2.length≤274877906944)&&(decide (x.3.length≤274877906944)&&(decide (x.4.length≤274877906944)&&decide (x.7.length≤274877906944)))
theorem PK.md_iff {x:PK}:x.md=true↔decide (x.2.length≤274877906944)=true∧decide (x.3.length≤274877906944)=true∧decide (x.4.length≤274877906944)=true∧decide (x.7.length≤274877906944)=true:=by
 unfold PK.md;simp only[Bool.and_eq_true,rpS]
theorem a6I (a:List PK) (l:Int) (h0:0≤l) (h1:l≤1048576) (hn:a.length≤274877906944) (h:u7 a=true):match cD (β:=Int) (γ:=Int) (fun i l=>bif decide (szF l (a.getD i PK0).zs<0)then .inr (szF l (a.getD i PK0).zs)else .inl (szF l (a.getD i PK0).zs)) a.length 0 l with
  |.inl c=>aN none Tryz.prog 0 (.block 0 (.loop (a5 0 (a0 gU)))) (oE a l 0) fun e t=>e=.normal∧t=LW a c
  |.inr c=>aN none Tryz.prog 0 (.block 0 (.loop (a5 0 (a0 gU)))) (oE a l 0) fun e t=>e=.ret∧t=M1 a c:=by
 have hk:=(AS h).2
 have g:=aN.countE (ro:=none) hT kM bF (m:=0) (id:=0) (body:=a5 0 (a0 gU)) (β:=Int) (γ:=Int) a.length (fun _ l=>0≤l∧l≤1048576) (fun i l=>oE a l i) (fun l=>LW a l) (fun l=>M1 a l) .ret (.inr rfl)
  (fun i l=>bif decide (szF l (a.getD i PK0).zs<0)then .inr (szF l (a.getD i PK0).zs)else .inl (szF l (a.getD i PK0).zs)) (a6 gU 0) (a8 gU 0) (fun _ _=>[]) (fun _ _ _ _=>aK.nil) (fun i l hi hl=> ?_) (fun l _=>⟨_,_,⟨_,_,TZ a l a.length,by simp,by simp⟩⟩) l ⟨h0,h1⟩
 ·split<;>rename_i hq<;>rw[hq]at g<;>exact g
 ·obtain⟨q1,q2,q3,q4⟩:=PK.sm_iff.1 (hk i hi)
  have hl1:=decide_eq_true hl.1
  have hl2:=decide_eq_true hl.2
  cases hc:decide (szF l (a.getD i PK0).zs<0)with
  |true=>
   have e:=TX a l i
   rw[Int.toNat_natCast]at e
   have hc':decide (szF l ((a.getD i PK0).2.length+(a.getD i PK0).3.length+(a.getD i PK0).4.length+(a.getD i PK0).7.length)<0)=true:=hc
   exact .inr ⟨_,rfl,_,_,⟨_,_,e,by simp only[q1,q2,q3,q4,hl1,hl2,hc',decide_true,rpS,decide_false,beq_self_eq_true,bne_self_eq_false,Bool.not_true,Bool.not_false,Bool.not_not,cond_true,cond_false,Bool.true_and,Bool.and_true,Bool.false_and,Bool.and_false,Bool.or_true,Bool.true_or,Bool.or_false,Bool.false_or,Bool.and_eq_true,Bool.not_eq_true',decide_eq_true_eq,decide_eq_false_iff_not,true_and,and_true]<;>omega,by simp⟩⟩
  |false=>
   have e:=TY a l i
   rw[aB (i:=(i:Int)+1) (by omega) (by omega),Int.toNat_natCast]at e
   have hc':decide (szF l ((a.getD i PK0).2.length+(a.getD i PK0).3.length+(a.getD i PK0).4.length+(a.getD i PK0).7.length)<0)=false:=hc
   refine .inl ⟨_,rfl, ?_,_,_,⟨_,_,e,by simp only[q1,q2,q3,q4,hl1,hl2,hc',decide_true,rpS,decide_false,beq_self_eq_true,bne_self_eq_false,Bool.not_true,Bool.not_false,Bool.not_not,cond_true,cond_false,Bool.true_and,Bool.and_true,Bool.false_and,Bool.and_false,Bool.or_true,Bool.true_or,Bool.or_false,Bool.false_or,Bool.and_eq_true,Bool.not_eq_true',decide_eq_true_eq,decide_eq_false_iff_not,true_and,and_true]<;>omega,by simp⟩⟩
   have hd:=of_decide_eq_false hc
   by_cases c:l-((a.getD i PK0).zs:Nat)<0
   ·rw[a8W c]at hd;omega
   ·rw[a8X c];omega
def HC:aM:=fun args h=>
 match args,h with
 |[.c (.view _ (.typ .pk a) n 8 _),.c (.int .i64 l)],[]=>
  some (.c (.int .i64 (szF l (gW a))),[],[decide (n=a.length),u7 a,decide (0≤l),decide (l≤1048576)])
 |_,_=>none
theorem a8L:aS Tryz.prog 154 HC:=by
 intro args h res h' o hnorm he ho
 unfold HC at he
 split at he
 case h_2=>cases he
 rename_i nl a n cap l
 simp only[Option.some.injEq,Prod.mk.injEq]at he
 obtain⟨rfl,rfl,rfl⟩:=he
 simp only[List.mem_cons,List.not_mem_nil,or_false,forall_eq_or_imp,forall_eq,decide_eq_true_eq]at ho
 obtain⟨o1,o2,o3,o4⟩:=ho
 simp only[b8,AV.norm,bA,aF.norm,Con.size,List.cons.injEq,AV.c.injEq,AV.agg.injEq,aF.view.injEq,aL,true_and,and_true]at hnorm
 obtain⟨rfl,_,rfl⟩:=hnorm
 subst o1
 have hn:=(AS o2).1
 unfold gW
 by_cases c:l-(a.length:Int)<0
 ·rw[a8W (by omega)]
  exact cF kM (WG a l 0 []) (by kernel_rfl) (by kernel_rfl) rfl (by rw[cR (by omega) (by omega),decide_eq_true c];rfl)
 ·have g:=a6I a (l-(a.length:Int)) (by omega) (by omega) (by omega) o2
  have k:=EI (g:=fun i=>(a.getD i PK0).zs) a.length 0 (l-(a.length:Int)) (by omega)
  generalize cD (β:=Int) (γ:=Int) (fun i l=>bif decide (szF l (a.getD i PK0).zs<0)then .inr (szF l (a.getD i PK0).zs)else .inl (szF l (a.getD i PK0).zs)) a.length 0 (l-(a.length:Int))=r at g k
  rcases r with r|r
  ·obtain⟨k1,k2⟩:=k
   rw[a8X (by omega),show l-((a.length+nS (fun i=>(a.getD i PK0).zs) a.length 0:Nat):Int)=r from by omega]
   have e:=WH a l r
   rw[aB (by omega) (by omega)]at e
   exact bQ kM e (by kernel_rfl) (by kernel_rfl) (by kernel_rfl) g (by simp) (by rw[decide_eq_false c];rfl)
  ·have k:l-(a.length:Int)-(nS (fun i=>(a.getD i PK0).zs) a.length 0:Nat)<0:=k
   rw[a8W (by omega)]
   have e:=WL a l r
   rw[aB (by omega) (by omega)]at e
   exact bQ kM e (by kernel_rfl) (by kernel_rfl) (by kernel_rfl) g (by simp) (by rw[decide_eq_false c];rfl)
theorem a6M (a:List PK) (hn:a.length≤274877906944) (hk: ∀i,i<a.length→(a.getD i PK0).md=true):aN none Tryz.prog 0 (.block 0 (.loop (a5 0 (a0 mX)))) (yV a (List.replicate a.length PK0) 0) fun e t=>e=.normal∧t=LY a a:=by
 have key:=aN.count (ro:=none) hT kM bF (m:=0) (id:=0) (body:=a5 0 (a0 mX)) (β:=List PK) a.length (fun _ c=>c.length=a.length) (fun i c=>yV a c i) (fun c=>LY a c) (fun i c=>c.set i (a.getD i PK0)) (a6 mX 0) (a8 mX 0) (fun _ _=>[]) (fun _ _ _ _=>aK.nil) (fun i c hi hc=>⟨by rw[List.length_set];exact hc, ?_⟩) (fun c _=>⟨_,_,⟨_,_,U3 a c a.length,by simp,by simp⟩⟩) (List.replicate a.length PK0) (by simp)
 ·have er:bH (fun i c=>c.set i (a.getD i PK0)) a.length 0 (List.replicate a.length PK0)=a:=aA9 (d:=PK0) (by simp) (fun _ _=>rfl)
  rw[er]at key
  exact key
 ·obtain⟨q1,q2,q3,q4⟩:=PK.md_iff.1 (hk i hi)
  have e:=U2 a c i
  rw[aB (i:=(i:Int)+1) (by omega) (by omega),Int.toNat_natCast]at e
  exact⟨_,_,⟨_,_,e,by simp only[hc,q1,q2,q3,q4,decide_true,rpS,decide_false,beq_self_eq_true,bne_self_eq_false,Bool.not_true,Bool.not_false,Bool.not_not,cond_true,cond_false,Bool.true_and,Bool.and_true,Bool.false_and,Bool.and_false,Bool.or_true,Bool.true_or,Bool.or_false,Bool.false_or,Bool.and_eq_true,Bool.not_eq_true',decide_eq_true_eq,decide_eq_false_iff_not,true_and,and_true]<;>omega,by simp⟩⟩
theorem a6E (a:List PK) (hn:a.length≤274877906944) (hk: ∀i,i<a.length→(a.getD i PK0).md=true):aN none Tryz.prog 0 (.block 0 (.loop (a5 0 (a0 mU)))) (yT a 0) fun e t=>e=.normal∧t=LU a:=by
 refine aN.count (ro:=none) hT kM bF (m:=0) (id:=0) (body:=a5 0 (a0 mU)) (β:=Unit) a.length (fun _ _=>True) (fun i _=>yT a i) (fun _=>LU a) (fun _ _=>()) (a6 mU 0) (a8 mU 0) (fun _ _=>[]) (fun _ _ _ _=>aK.nil) (fun i c hi hc=>⟨trivial, ?_⟩) (fun c _=>⟨_,_,⟨_,_,TT a a.length,by simp,by simp⟩⟩) () trivial
 obtain⟨q1,q2,q3,q4⟩:=PK.md_iff.1 (hk i hi)
 have e:=TS a i
 rw[aB (i:=(i:Int)+1) (by omega) (by omega),Int.toNat_natCast]at e
 exact⟨_,_,⟨_,_,e,by simp only[eq_self,q1,q2,q3,q4,decide_true,rpS,decide_false,beq_self_eq_true,bne_self_eq_false,Bool.not_true,Bool.not_false,Bool.not_not,cond_true,cond_false,Bool.true_and,Bool.and_true,Bool.false_and,Bool.and_false,Bool.or_true,Bool.true_or,Bool.or_false,Bool.false_or,Bool.and_eq_true,Bool.not_eq_true',decide_eq_true_eq,decide_eq_false_iff_not,true_and,and_true]<;>omega,by simp⟩⟩
def H8:aM:=fun args h=>
 match args,h with
 |[.c (.view _ (.typ .pk a) n 8 _)],[]=>
  some (.c (.sl 0 0 a.length 8 none),[.live (.typ .pk a)],[decide (n=a.length),decide (a.length≤274877906944),a.all PK.md])
 |_,_=>none
theorem a8N:aS Tryz.prog 165 H8:=by
 intro args h res h' o hnorm he ho
 unfold H8 at he
 split at he
 case h_2=>cases he
 rename_i nl a n cap
 simp only[Option.some.injEq,Prod.mk.injEq]at he
 obtain⟨rfl,rfl,rfl⟩:=he
 simp only[List.mem_cons,List.not_mem_nil,or_false,forall_eq_or_imp,forall_eq,decide_eq_true_eq]at ho
 obtain⟨o1,o2,o3⟩:=ho
 simp only[b8,AV.norm,bA,aF.norm,Con.size,List.cons.injEq,AV.c.injEq,AV.agg.injEq,aF.view.injEq,aL,true_and,and_true]at hnorm
 obtain⟨rfl,_,rfl⟩:=hnorm
 subst o1
 have g:=a6M a o2 (fun i hi=>List.all_eq_true.1 o3 _ (dA hi))
 exact bQ kM (WJ a) (by kernel_rfl) (by kernel_rfl) (by kernel_rfl) g (by simp) (by simp only[decide_true,rpS,decide_false,beq_self_eq_true,bne_self_eq_false,Bool.not_true,Bool.not_false,Bool.not_not,cond_true,cond_false,Bool.true_and,Bool.and_true,Bool.false_and,Bool.and_false,Bool.or_true,Bool.true_or,Bool.or_false,Bool.false_or,Bool.and_eq_true,Bool.not_eq_true',decide_eq_true_eq,decide_eq_false_iff_not,true_and,and_true];omega)
def GQ:aM:=fun args h=>
 match args,h with
 |[.c (.view _ (.typ .pk a) n 8 _),.c (.view _ (.typ .pk b) n2 8 _)],[]=>
  some (.c (.bool true),[],[decide (n=a.length),decide (a.length≤274877906944),a.all PK.md,decide (n2=b.length),decide (a=b)])
 |_,_=>none
theorem a8I:aS Tryz.prog 170 GQ:=by
 intro args h res h' o hnorm he ho
 unfold GQ at he
 split at he
 case h_2=>cases he
 rename_i nl a n cap nl2 b n2 cap2
 simp only[Option.some.injEq,Prod.mk.injEq]at he
 obtain⟨rfl,rfl,rfl⟩:=he
 simp only[List.mem_cons,List.not_mem_nil,or_false,forall_eq_or_imp,forall_eq,decide_eq_true_eq]at ho
 obtain⟨o1,o2,o3,o4,o5⟩:=ho
 simp only[b8,AV.norm,bA,aF.norm,Con.size,List.cons.injEq,AV.c.injEq,AV.agg.injEq,aF.view.injEq,aL,true_and,and_true]at hnorm
 obtain⟨⟨rfl,_,rfl⟩,⟨rfl,_,rfl⟩⟩:=hnorm
 subst o1
 subst o4
 subst o5
 have g:=a6E a o2 (fun i hi=>List.all_eq_true.1 o3 _ (dA hi))
 exact bQ kM (WD a) (by kernel_rfl) (by kernel_rfl) (by kernel_rfl) g (by simp) (by simp)
end
section
noncomputable def yY:List aZ:=[⟨154,[],nm HC⟩,⟨165,[],nm H8⟩,⟨170,[],nm GQ⟩]++dG
theorem X7:a7 Tryz.prog yY:=by
 refine a7.append ?_ X6
 intro e he
 simp only[List.mem_cons,List.not_mem_nil,or_false]at he
 rcases he with rfl|rfl|rfl
 ·exact a8L.ok
 ·exact a8N.ok
 ·exact a8I.ok
theorem KW:bK Tryz.prog (a9 yY):=aO X7
theorem a4K (nm:ByteArray) (ks:List PK) (l:Int) (lcv:List (Nat×LC)):aE tt (a9 yY) (lcv) 100 Tryz.f107 [.agg [.str nm,.view none (.typ .pk ks) ks.length 8 none],.c (.int .i64 l)] [] [(0,true)]=
  some ⟨.c (.int .i64 (-1)),[],((decide (IntKind.i64.wrap (l-(↑nm.size:Int))<0))&&true),[]⟩:=by kernel_rfl
theorem a4L (nm:ByteArray) (ks:List PK) (l:Int) (lcv:List (Nat×LC)):aE tt (a9 yY) (lcv) 100 Tryz.f107 [.agg [.str nm,.view none (.typ .pk ks) ks.length 8 none],.c (.int .i64 l)] [] [(0,false),(0,true)]=
  some ⟨.c (.int .i64 (-1)),[],(!decide (IntKind.i64.wrap (l-(↑nm.size:Int))<0)&&(decide (ks.length=ks.length)&&(u7 ks&&(decide (0≤IntKind.i64.wrap (l-(↑nm.size:Int)))&&(decide (IntKind.i64.wrap (l-(↑nm.size:Int))≤1048576)&&((decide (szF (IntKind.i64.wrap (l-(↑nm.size:Int))) (gW ks)<0))&&true)))))),[]⟩:=by kernel_rfl
theorem a4M (nm:ByteArray) (ks:List PK) (l:Int) (lcv:List (Nat×LC)):aE tt (a9 yY) (lcv) 100 Tryz.f107 [.agg [.str nm,.view none (.typ .pk ks) ks.length 8 none],.c (.int .i64 l)] [] [(0,false),(0,false)]=
  some ⟨.c (.int .i64 (szF (IntKind.i64.wrap (l-(↑nm.size:Int))) (gW ks))),[],(!decide (IntKind.i64.wrap (l-(↑nm.size:Int))<0)&&(decide (ks.length=ks.length)&&(u7 ks&&(decide (0≤IntKind.i64.wrap (l-(↑nm.size:Int)))&&(decide (IntKind.i64.wrap (l-(↑nm.size:Int))≤1048576)&&((!decide (szF (IntKind.i64.wrap (l-(↑nm.size:Int))) (gW ks)<0))&&true)))))),[]⟩:=by kernel_rfl
def HE:aM:=fun args h=>
 match args,h with
 |[.agg [.str nm,.view _ (.typ .pk ks) n 8 _],.c (.int .i64 l)],[]=>
  some (.c (.int .i64 (szF l (nm.size+gW ks))),[],[decide (n=ks.length),u7 ks,decide (nm.size≤9223372036854775807),decide (0≤l),decide (l≤1048576)])
 |_,_=>none
theorem mSW:aS Tryz.prog 107 HE:=by
 intro args h res h' o hnorm he ho
 unfold HE at he
 split at he
 case h_2=>cases he
 rename_i nm nl ks n cap l
 simp only[Option.some.injEq,Prod.mk.injEq]at he
 obtain⟨rfl,rfl,rfl⟩:=he
 simp only[List.mem_cons,List.not_mem_nil,or_false,forall_eq_or_imp,forall_eq,decide_eq_true_eq]at ho
 obtain⟨o1,o2,o3,o4,o5⟩:=ho
 simp only[b8,AV.norm,bA,aF.norm,Con.size,List.cons.injEq,AV.c.injEq,AV.agg.injEq,aF.view.injEq,aL,true_and,and_true]at hnorm
 obtain⟨rfl,_,rfl⟩:=hnorm
 subst o1
 by_cases h1:l-(nm.size:Int)<0
 ·rw[a8W (n:=nm.size+gW ks) (by omega)]
  have e:=a4K nm ks l []
  rw[cR (by omega) (by omega)]at e
  exact cF KW e (by kernel_rfl) (by kernel_rfl) rfl (by simp only[decide_eq_true h1,decide_true,rpS,decide_false,beq_self_eq_true,bne_self_eq_false,Bool.not_true,Bool.not_false,Bool.not_not,cond_true,cond_false,Bool.true_and,Bool.and_true,Bool.false_and,Bool.and_false,Bool.or_true,Bool.true_or,Bool.or_false,Bool.false_or,Bool.and_eq_true,Bool.not_eq_true',decide_eq_true_eq,decide_eq_false_iff_not,true_and,and_true]<;>omega)
 ·by_cases h2:l-(nm.size:Int)-(gW ks:Int)<0
  ·rw[a8W (n:=nm.size+gW ks) (by omega)]
   have e:=a4L nm ks l []
   rw[cR (by omega) (by omega),a8W h2]at e
   exact cF KW e (by kernel_rfl) (by kernel_rfl) rfl (by simp only[decide_eq_false h1,o2,decide_true,rpS,decide_false,beq_self_eq_true,bne_self_eq_false,Bool.not_true,Bool.not_false,Bool.not_not,cond_true,cond_false,Bool.true_and,Bool.and_true,Bool.false_and,Bool.and_false,Bool.or_true,Bool.true_or,Bool.or_false,Bool.false_or,Bool.and_eq_true,Bool.not_eq_true',decide_eq_true_eq,decide_eq_false_iff_not,true_and,and_true]<;>omega)
  ·have e:=a4M nm ks l []
   rw[cR (by omega) (by omega),a8X h2]at e
   rw[a8X (n:=nm.size+gW ks) (by omega),show l-((nm.size+gW ks:Nat):Int)=l-(nm.size:Int)-(gW ks:Int)from by omega]
   exact cF KW e (by kernel_rfl) (by kernel_rfl) rfl (by simp only[decide_eq_false h1,decide_eq_false h2,o2,decide_true,rpS,decide_false,beq_self_eq_true,bne_self_eq_false,Bool.not_true,Bool.not_false,Bool.not_not,cond_true,cond_false,Bool.true_and,Bool.and_true,Bool.false_and,Bool.and_false,Bool.or_true,Bool.true_or,Bool.or_false,Bool.false_or,Bool.and_eq_true,Bool.not_eq_true',decide_eq_true_eq,decide_eq_false_iff_not,true_and,and_true]<;>omega)
noncomputable def lY:List aZ:=[⟨107,[],nm HE⟩,⟨117,[],dV tt (a9 yY) Tryz.f117 []⟩,⟨121,[],dV tt (a9 yY) Tryz.f121 [(0,false),(0,false)]⟩]++yY
theorem X8:a7 Tryz.prog lY:=by
 refine a7.append ?_ X7
 intro e he
 simp only[List.mem_cons,List.not_mem_nil,or_false]at he
 rcases he with rfl|rfl|rfl
 ·exact mSW.ok
 ·exact cG hT KW bF [] (by kernel_rfl) (by kernel_rfl)
 ·exact cG hT KW bF [(0,false),(0,false)] (by kernel_rfl) (by kernel_rfl)
theorem B2:bK Tryz.prog (a9 lY):=aO X8
noncomputable abbrev gT:=Tryz.f54
noncomputable def oD (a:List Itm) (l i:Int):St:=aR gT.ntmps [(0,.c (.view none (.typ .itm a) a.length 2 none)),(1,.c (.int .i64 l)),(5,.c (.int .i64 i))] []
noncomputable def LV (a:List Itm) (l:Int):St:=aR gT.ntmps [(1,.c (.int .i64 l))] []
noncomputable def M0 (a:List Itm) (l:Int):St:=aR gT.ntmps [(1,.c (.int .i64 l)),(4,.c (.int .i64 (-1)))] []
theorem TU (a:List Itm) (l i:Int):aC 0 (a6 gT 0) (a8 gT 0) (aD tt (a9 lY) ([]) 0 100 (a5 0 (a0 gT)) (oD a l i) [(0,true),(0,true)])=
  some (.ret,(decide (i<(↑a.length:Int))&&(decide (0≤i)&&(decide (i<(↑a.length:Int))&&((decide (i.toNat<a.length)&&true)&&(decide ((a.getD i.toNat aI).ks.length=(a.getD i.toNat aI).2.length)&&(u7 (a.getD i.toNat aI).2&&(decide ((a.getD i.toNat aI).1.size≤9223372036854775807)&&(decide (0≤l)&&(decide (l≤1048576)&&((decide (szF l ((a.getD i.toNat aI).1.size+gW (a.getD i.toNat aI).2)<0))&&true)))))))))),[],M0 a (szF l ((a.getD i.toNat aI).1.size+gW (a.getD i.toNat aI).2))):=by kernel_rfl
theorem TV (a:List Itm) (l i:Int):aC 0 (a6 gT 0) (a8 gT 0) (aD tt (a9 lY) ([]) 0 100 (a5 0 (a0 gT)) (oD a l i) [(0,true),(0,false)])=
  some (.normal,(decide (i<(↑a.length:Int))&&(decide (0≤i)&&(decide (i<(↑a.length:Int))&&((decide (i.toNat<a.length)&&true)&&(decide ((a.getD i.toNat aI).ks.length=(a.getD i.toNat aI).2.length)&&(u7 (a.getD i.toNat aI).2&&(decide ((a.getD i.toNat aI).1.size≤9223372036854775807)&&(decide (0≤l)&&(decide (l≤1048576)&&((!decide (szF l ((a.getD i.toNat aI).1.size+gW (a.getD i.toNat aI).2)<0))&&true)))))))))),[],oD a (szF l ((a.getD i.toNat aI).1.size+gW (a.getD i.toNat aI).2)) (IntKind.i64.wrap (i+1))):=by kernel_rfl
theorem TW (a:List Itm) (l i:Int):aC 0 (a6 gT 0) (a8 gT 0) (aD tt (a9 lY) ([]) 0 100 (a5 0 (a0 gT)) (oD a l i) [(0,false)])=
  some (.exit 0,((!decide (i<(↑a.length:Int)))&&true),[],LV a l):=by kernel_rfl
theorem WE (a:List Itm) (l k:Int) (lcv:List (Nat×LC)):aE tt (a9 lY) (lcv) 100 gT [.c (.view none (.typ .itm a) a.length 2 none),.c (.int .i64 l)] [] [(0,true)]=
  some ⟨.c (.int .i64 (-1)),[],((decide (IntKind.i64.wrap (l-(↑a.length:Int))<0))&&true),[]⟩:=by kernel_rfl
theorem WF (a:List Itm) (l k:Int):aE tt (a9 lY) ([(0,⟨a6 gT 0,oD a (IntKind.i64.wrap (l-(a.length:Int))) 0,.normal,LV a k⟩)]) 100 gT [.c (.view none (.typ .itm a) a.length 2 none),.c (.int .i64 l)] [] [(0,false)]=
  some ⟨.c (.int .i64 k),[],((!decide (IntKind.i64.wrap (l-(↑a.length:Int))<0))&&true),[oD a (IntKind.i64.wrap (l-(a.length:Int))) 0=oD a (IntKind.i64.wrap (l-(a.length:Int))) 0]⟩:=by kernel_rfl
theorem WK (a:List Itm) (l k:Int):aE tt (a9 lY) ([(0,⟨a6 gT 0,oD a (IntKind.i64.wrap (l-(a.length:Int))) 0,.ret,M0 a k⟩)]) 100 gT [.c (.view none (.typ .itm a) a.length 2 none),.c (.int .i64 l)] [] [(0,false)]=
  some ⟨.c (.int .i64 (-1)),[],((!decide (IntKind.i64.wrap (l-(↑a.length:Int))<0))&&true),[oD a (IntKind.i64.wrap (l-(a.length:Int))) 0=oD a (IntKind.i64.wrap (l-(a.length:Int))) 0]⟩:=by kernel_rfl
noncomputable abbrev mW:=Tryz.f59
noncomputable def yU (a:List Itm) (c:List Itm) (i:Int):St:=aR mW.ntmps [(0,.c (.view none (.typ .itm a) a.length 2 none)),(3,.c (.sl 0 0 a.length 2 none)),(4,.c (.int .i64 i))] [.live (.typ .itm c)]
noncomputable def LX (a:List Itm) (c:List Itm):St:=aR mW.ntmps [(3,.c (.sl 0 0 a.length 2 none))] [.live (.typ .itm c)]
theorem U0 (a:List Itm) (c:List Itm) (i:Int):aC 0 (a6 mW 0) (a8 mW 0) (aD tt (a9 lY) ([]) 0 100 (a5 0 (a0 mW)) (yU a c i) [(0,true)])=
  some (.normal,(decide (i<(↑a.length:Int))&&(decide (0≤i)&&(decide (i<(↑a.length:Int))&&((decide (i.toNat<a.length)&&true)&&((decide ((a.getD i.toNat aI).ks.length=(a.getD i.toNat aI).2.length)&&(decide ((a.getD i.toNat aI).2.length≤274877906944)&&((a.getD i.toNat aI).2.all PK.md&&true)))&&(decide (0≤i)&&(decide (i<(↑a.length:Int))&&(decide ((a.getD i.toNat aI).2.length*8=(a.getD i.toNat aI).2.length*8)&&((decide (i.toNat<c.length)&&true)&&true))))))))),[],yU a (c.set i.toNat ((fun ks=> {nm:=(a.getD i.toNat aI).1,ks:=ks}) (a.getD i.toNat aI).2)) (IntKind.i64.wrap (i+1))):=by kernel_rfl
theorem U1 (a:List Itm) (c:List Itm) (i:Int):aC 0 (a6 mW 0) (a8 mW 0) (aD tt (a9 lY) ([]) 0 100 (a5 0 (a0 mW)) (yU a c i) [(0,false)])=
  some (.exit 0,((!decide (i<(↑a.length:Int)))&&true),[],LX a c):=by kernel_rfl
theorem WI (a:List Itm):aE tt (a9 lY) ([(0,⟨a6 mW 0,yU a (List.replicate a.length aI) 0,.normal,LX a a⟩)]) 100 mW [.c (.view none (.typ .itm a) a.length 2 none)] [] []=
  some ⟨.c (.sl 0 0 a.length 2 none),[.live (.typ Ty.itm a)],(decide ((↑a.length:Int)≤(↑a.length:Int))&&((decide ((↑a.length:Int)≤274877906944))&&true)),[yU a (List.replicate a.length aI) 0=yU a (List.replicate a.length aI) 0]⟩:=by kernel_rfl
noncomputable abbrev mT:=Tryz.f64
noncomputable def yS (a:List Itm) (i:Int):St:=aR mT.ntmps [(0,.c (.view none (.typ .itm a) a.length 2 none)),(1,.c (.view none (.typ .itm a) a.length 2 none)),(5,.c (.int .i64 i))] []
noncomputable def LT (a:List Itm):St:=aR mT.ntmps [] []
theorem TQ (a:List Itm) (i:Int):aC 0 (a6 mT 0) (a8 mT 0) (aD tt (a9 lY) ([]) 0 100 (a5 0 (a0 mT)) (yS a i) [(0,true)])=
  some (.normal,(decide (i<(↑a.length:Int))&&(decide (0≤i)&&(decide (i<(↑a.length:Int))&&((decide (i.toNat<a.length)&&true)&&(decide (0≤i)&&(decide (i<(↑a.length:Int))&&((decide (i.toNat<a.length)&&true)&&((!!hO (a.getD i.toNat aI).1 (a.getD i.toNat aI).1&&(decide ((a.getD i.toNat aI).ks.length=(a.getD i.toNat aI).2.length)&&(decide ((a.getD i.toNat aI).2.length≤274877906944)&&((a.getD i.toNat aI).2.all PK.md&&(decide ((a.getD i.toNat aI).ks.length=(a.getD i.toNat aI).2.length)&&(decide ((a.getD i.toNat aI).2=(a.getD i.toNat aI).2)&&true))))))&&true)))))))),[],yS a (IntKind.i64.wrap (i+1))):=by kernel_rfl
theorem TR (a:List Itm) (i:Int):aC 0 (a6 mT 0) (a8 mT 0) (aD tt (a9 lY) ([]) 0 100 (a5 0 (a0 mT)) (yS a i) [(0,false)])=
  some (.exit 0,((!decide (i<(↑a.length:Int)))&&true),[],LT a):=by kernel_rfl
theorem WC (a:List Itm):aE tt (a9 lY) ([(0,⟨a6 mT 0,yS a 0,.normal,LT a⟩)]) 100 mT [.c (.view none (.typ .itm a) a.length 2 none),.c (.view none (.typ .itm a) a.length 2 none)] [] [(0,false)]=
  some ⟨.c (.bool true),[],((!(↑a.length:Int)!=(↑a.length:Int))&&true),[yS a 0=yS a 0]⟩:=by kernel_rfl
theorem Itm.sm_iff {x:Itm}:x.sm=true↔decide (x.1.size≤9223372036854775807)=true∧u7 x.2=true:=by
 unfold Itm.sm;simp only[Bool.and_eq_true,rpS]
def Itm.md (x:Itm):Bool:=decide (x.2.length≤274877906944)&&x.2.all PK.md
theorem Itm.md_iff {x:Itm}:x.md=true↔decide (x.2.length≤274877906944)=true∧x.2.all PK.md=true:=by
 unfold Itm.md;simp only[Bool.and_eq_true,rpS]
theorem uE (x:ByteArray):hO x x=true:=by unfold hO;simp
theorem a6H (a:List Itm) (l:Int) (h0:0≤l) (h1:l≤1048576) (hn:a.length≤274877906944) (h:pG a=true):match cD (β:=Int) (γ:=Int) (fun i l=>bif decide (szF l (a.getD i aI).zs<0)then .inr (szF l (a.getD i aI).zs)else .inl (szF l (a.getD i aI).zs)) a.length 0 l with
  |.inl c=>aN none Tryz.prog 0 (.block 0 (.loop (a5 0 (a0 gT)))) (oD a l 0) fun e t=>e=.normal∧t=LV a c
  |.inr c=>aN none Tryz.prog 0 (.block 0 (.loop (a5 0 (a0 gT)))) (oD a l 0) fun e t=>e=.ret∧t=M0 a c:=by
 have hk:=(AR h).2
 have g:=aN.countE (ro:=none) hT B2 bF (m:=0) (id:=0) (body:=a5 0 (a0 gT)) (β:=Int) (γ:=Int) a.length (fun _ l=>0≤l∧l≤1048576) (fun i l=>oD a l i) (fun l=>LV a l) (fun l=>M0 a l) .ret (.inr rfl)
  (fun i l=>bif decide (szF l (a.getD i aI).zs<0)then .inr (szF l (a.getD i aI).zs)else .inl (szF l (a.getD i aI).zs)) (a6 gT 0) (a8 gT 0) (fun _ _=>[]) (fun _ _ _ _=>aK.nil) (fun i l hi hl=> ?_) (fun l _=>⟨_,_,⟨_,_,TW a l a.length,by simp,by simp⟩⟩) l ⟨h0,h1⟩
 ·split<;>rename_i hq<;>rw[hq]at g<;>exact g
 ·obtain⟨q1,q2⟩:=Itm.sm_iff.1 (hk i hi)
  have hl1:=decide_eq_true hl.1
  have hl2:=decide_eq_true hl.2
  cases hc:decide (szF l (a.getD i aI).zs<0)with
  |true=>
   have e:=TU a l i
   rw[Int.toNat_natCast]at e
   have hc':decide (szF l ((a.getD i aI).1.size+gW (a.getD i aI).2)<0)=true:=hc
   exact .inr ⟨_,rfl,_,_,⟨_,_,e,by simp only[q1,q2,hl1,hl2,hc',decide_true,rpS,decide_false,beq_self_eq_true,bne_self_eq_false,Bool.not_true,Bool.not_false,Bool.not_not,cond_true,cond_false,Bool.true_and,Bool.and_true,Bool.false_and,Bool.and_false,Bool.or_true,Bool.true_or,Bool.or_false,Bool.false_or,Bool.and_eq_true,Bool.not_eq_true',decide_eq_true_eq,decide_eq_false_iff_not,true_and,and_true]<;>omega,by simp⟩⟩
  |false=>
   have e:=TV a l i
   rw[aB (i:=(i:Int)+1) (by omega) (by omega),Int.toNat_natCast]at e
   have hc':decide (szF l ((a.getD i aI).1.size+gW (a.getD i aI).2)<0)=false:=hc
   refine .inl ⟨_,rfl, ?_,_,_,⟨_,_,e,by simp only[q1,q2,hl1,hl2,hc',decide_true,rpS,decide_false,beq_self_eq_true,bne_self_eq_false,Bool.not_true,Bool.not_false,Bool.not_not,cond_true,cond_false,Bool.true_and,Bool.and_true,Bool.false_and,Bool.and_false,Bool.or_true,Bool.true_or,Bool.or_false,Bool.false_or,Bool.and_eq_true,Bool.not_eq_true',decide_eq_true_eq,decide_eq_false_iff_not,true_and,and_true]<;>omega,by simp⟩⟩
   have hd:=of_decide_eq_false hc
   by_cases c:l-((a.getD i aI).zs:Nat)<0
   ·rw[a8W c]at hd;omega
   ·rw[a8X c];omega
def HB:aM:=fun args h=>
 match args,h with
 |[.c (.view _ (.typ .itm a) n 2 _),.c (.int .i64 l)],[]=>
  some (.c (.int .i64 (szF l (jU a))),[],[decide (n=a.length),pG a,decide (0≤l),decide (l≤1048576)])
 |_,_=>none
theorem a8K:aS Tryz.prog 54 HB:=by
 intro args h res h' o hnorm he ho
 unfold HB at he
 split at he
 case h_2=>cases he
 rename_i nl a n cap l
 simp only[Option.some.injEq,Prod.mk.injEq]at he
 obtain⟨rfl,rfl,rfl⟩:=he
 simp only[List.mem_cons,List.not_mem_nil,or_false,forall_eq_or_imp,forall_eq,decide_eq_true_eq]at ho
 obtain⟨o1,o2,o3,o4⟩:=ho
 simp only[b8,AV.norm,bA,aF.norm,Con.size,List.cons.injEq,AV.c.injEq,AV.agg.injEq,aF.view.injEq,aL,true_and,and_true]at hnorm
 obtain⟨rfl,_,rfl⟩:=hnorm
 subst o1
 have hn:=(AR o2).1
 unfold jU
 by_cases c:l-(a.length:Int)<0
 ·rw[a8W (by omega)]
  exact cF B2 (WE a l 0 []) (by kernel_rfl) (by kernel_rfl) rfl (by rw[cR (by omega) (by omega),decide_eq_true c];rfl)
 ·have g:=a6H a (l-(a.length:Int)) (by omega) (by omega) (by omega) o2
  have k:=EI (g:=fun i=>(a.getD i aI).zs) a.length 0 (l-(a.length:Int)) (by omega)
  generalize cD (β:=Int) (γ:=Int) (fun i l=>bif decide (szF l (a.getD i aI).zs<0)then .inr (szF l (a.getD i aI).zs)else .inl (szF l (a.getD i aI).zs)) a.length 0 (l-(a.length:Int))=r at g k
  rcases r with r|r
  ·obtain⟨k1,k2⟩:=k
   rw[a8X (by omega),show l-((a.length+nS (fun i=>(a.getD i aI).zs) a.length 0:Nat):Int)=r from by omega]
   have e:=WF a l r
   rw[aB (by omega) (by omega)]at e
   exact bQ B2 e (by kernel_rfl) (by kernel_rfl) (by kernel_rfl) g (by simp) (by rw[decide_eq_false c];rfl)
  ·have k:l-(a.length:Int)-(nS (fun i=>(a.getD i aI).zs) a.length 0:Nat)<0:=k
   rw[a8W (by omega)]
   have e:=WK a l r
   rw[aB (by omega) (by omega)]at e
   exact bQ B2 e (by kernel_rfl) (by kernel_rfl) (by kernel_rfl) g (by simp) (by rw[decide_eq_false c];rfl)
theorem a6L (a:List Itm) (hn:a.length≤274877906944) (hk: ∀i,i<a.length→(a.getD i aI).md=true):aN none Tryz.prog 0 (.block 0 (.loop (a5 0 (a0 mW)))) (yU a (List.replicate a.length aI) 0) fun e t=>e=.normal∧t=LX a a:=by
 have key:=aN.count (ro:=none) hT B2 bF (m:=0) (id:=0) (body:=a5 0 (a0 mW)) (β:=List Itm) a.length (fun _ c=>c.length=a.length) (fun i c=>yU a c i) (fun c=>LX a c) (fun i c=>c.set i (a.getD i aI)) (a6 mW 0) (a8 mW 0) (fun _ _=>[]) (fun _ _ _ _=>aK.nil) (fun i c hi hc=>⟨by rw[List.length_set];exact hc, ?_⟩) (fun c _=>⟨_,_,⟨_,_,U1 a c a.length,by simp,by simp⟩⟩) (List.replicate a.length aI) (by simp)
 ·have er:bH (fun i c=>c.set i (a.getD i aI)) a.length 0 (List.replicate a.length aI)=a:=aA9 (d:=aI) (by simp) (fun _ _=>rfl)
  rw[er]at key
  exact key
 ·obtain⟨q1,q2⟩:=Itm.md_iff.1 (hk i hi)
  have e:=U0 a c i
  rw[aB (i:=(i:Int)+1) (by omega) (by omega),Int.toNat_natCast]at e
  exact⟨_,_,⟨_,_,e,by simp only[hc,q1,q2,uE,decide_true,rpS,decide_false,beq_self_eq_true,bne_self_eq_false,Bool.not_true,Bool.not_false,Bool.not_not,cond_true,cond_false,Bool.true_and,Bool.and_true,Bool.false_and,Bool.and_false,Bool.or_true,Bool.true_or,Bool.or_false,Bool.false_or,Bool.and_eq_true,Bool.not_eq_true',decide_eq_true_eq,decide_eq_false_iff_not,true_and,and_true]<;>omega,by simp⟩⟩
theorem a6D (a:List Itm) (hn:a.length≤274877906944) (hk: ∀i,i<a.length→(a.getD i aI).md=true):aN none Tryz.prog 0 (.block 0 (.loop (a5 0 (a0 mT)))) (yS a 0) fun e t=>e=.normal∧t=LT a:=by
 refine aN.count (ro:=none) hT B2 bF (m:=0) (id:=0) (body:=a5 0 (a0 mT)) (β:=Unit) a.length (fun _ _=>True) (fun i _=>yS a i) (fun _=>LT a) (fun _ _=>()) (a6 mT 0) (a8 mT 0) (fun _ _=>[]) (fun _ _ _ _=>aK.nil) (fun i c hi hc=>⟨trivial, ?_⟩) (fun c _=>⟨_,_,⟨_,_,TR a a.length,by simp,by simp⟩⟩) () trivial
 obtain⟨q1,q2⟩:=Itm.md_iff.1 (hk i hi)
 have e:=TQ a i
 rw[aB (i:=(i:Int)+1) (by omega) (by omega),Int.toNat_natCast]at e
 exact⟨_,_,⟨_,_,e,by simp only[eq_self,q1,q2,uE,decide_true,rpS,decide_false,beq_self_eq_true,bne_self_eq_false,Bool.not_true,Bool.not_false,Bool.not_not,cond_true,cond_false,Bool.true_and,Bool.and_true,Bool.false_and,Bool.and_false,Bool.or_true,Bool.true_or,Bool.or_false,Bool.false_or,Bool.and_eq_true,Bool.not_eq_true',decide_eq_true_eq,decide_eq_false_iff_not,true_and,and_true]<;>omega,by simp⟩⟩
def H7:aM:=fun args h=>
 match args,h with
 |[.c (.view _ (.typ .itm a) n 2 _)],[]=>
  some (.c (.sl 0 0 a.length 2 none),[.live (.typ .itm a)],[decide (n=a.length),decide (a.length≤274877906944),a.all Itm.md])
 |_,_=>none
theorem a8M:aS Tryz.prog 59 H7:=by
 intro args h res h' o hnorm he ho
 unfold H7 at he
 split at he
 case h_2=>cases he
 rename_i nl a n cap
 simp only[Option.some.injEq,Prod.mk.injEq]at he
 obtain⟨rfl,rfl,rfl⟩:=he
 simp only[List.mem_cons,List.not_mem_nil,or_false,forall_eq_or_imp,forall_eq,decide_eq_true_eq]at ho
 obtain⟨o1,o2,o3⟩:=ho
 simp only[b8,AV.norm,bA,aF.norm,Con.size,List.cons.injEq,AV.c.injEq,AV.agg.injEq,aF.view.injEq,aL,true_and,and_true]at hnorm
 obtain⟨rfl,_,rfl⟩:=hnorm
 subst o1
 have g:=a6L a o2 (fun i hi=>List.all_eq_true.1 o3 _ (dA hi))
 exact bQ B2 (WI a) (by kernel_rfl) (by kernel_rfl) (by kernel_rfl) g (by simp) (by simp only[decide_true,rpS,decide_false,beq_self_eq_true,bne_self_eq_false,Bool.not_true,Bool.not_false,Bool.not_not,cond_true,cond_false,Bool.true_and,Bool.and_true,Bool.false_and,Bool.and_false,Bool.or_true,Bool.true_or,Bool.or_false,Bool.false_or,Bool.and_eq_true,Bool.not_eq_true',decide_eq_true_eq,decide_eq_false_iff_not,true_and,and_true];omega)
def GP:aM:=fun args h=>
 match args,h with
 |[.c (.view _ (.typ .itm a) n 2 _),.c (.view _ (.typ .itm b) n2 2 _)],[]=>
  some (.c (.bool true),[],[decide (n=a.length),decide (a.length≤274877906944),a.all Itm.md,decide (n2=b.length),decide (a=b)])
 |_,_=>none
theorem a8H:aS Tryz.prog 64 GP:=by
 intro args h res h' o hnorm he ho
 unfold GP at he
 split at he
 case h_2=>cases he
 rename_i nl a n cap nl2 b n2 cap2
 simp only[Option.some.injEq,Prod.mk.injEq]at he
 obtain⟨rfl,rfl,rfl⟩:=he
 simp only[List.mem_cons,List.not_mem_nil,or_false,forall_eq_or_imp,forall_eq,decide_eq_true_eq]at ho
 obtain⟨o1,o2,o3,o4,o5⟩:=ho
 simp only[b8,AV.norm,bA,aF.norm,Con.size,List.cons.injEq,AV.c.injEq,AV.agg.injEq,aF.view.injEq,aL,true_and,and_true]at hnorm
 obtain⟨⟨rfl,_,rfl⟩,⟨rfl,_,rfl⟩⟩:=hnorm
 subst o1
 subst o4
 subst o5
 have g:=a6D a o2 (fun i hi=>List.all_eq_true.1 o3 _ (dA hi))
 exact bQ B2 (WC a) (by kernel_rfl) (by kernel_rfl) (by kernel_rfl) g (by simp) (by simp)
noncomputable def CD:List aZ:=[⟨54,[],nm HB⟩,⟨59,[],nm H7⟩,⟨64,[],nm GP⟩]++lY
theorem X9:a7 Tryz.prog CD:=by
 refine a7.append ?_ X8
 intro e he
 simp only[List.mem_cons,List.not_mem_nil,or_false]at he
 rcases he with rfl|rfl|rfl
 ·exact a8K.ok
 ·exact a8M.ok
 ·exact a8H.ok
theorem OH:bK Tryz.prog (a9 CD):=aO X9
theorem a4I (q:Int) (its:List Itm) (l:Int) (lcv:List (Nat×LC)):aE tt (a9 CD) (lcv) 100 Tryz.f15 [.agg [.int .i64 q,.view none (.typ .itm its) its.length 2 none],.c (.int .i64 l)] [] [(0,true)]=
  some ⟨.c (.int .i64 (-1)),[],(decide (its.length=its.length)&&(pG its&&(decide (0≤l)&&(decide (l≤1048576)&&((decide (szF l (jU its)<0))&&true))))),[]⟩:=by kernel_rfl
theorem a4J (q:Int) (its:List Itm) (l:Int) (lcv:List (Nat×LC)):aE tt (a9 CD) (lcv) 100 Tryz.f15 [.agg [.int .i64 q,.view none (.typ .itm its) its.length 2 none],.c (.int .i64 l)] [] [(0,false)]=
  some ⟨.c (.int .i64 (szF l (jU its))),[],(decide (its.length=its.length)&&(pG its&&(decide (0≤l)&&(decide (l≤1048576)&&((!decide (szF l (jU its)<0))&&true))))),[]⟩:=by kernel_rfl
def HD:aM:=fun args h=>
 match args,h with
 |[.agg [.int .i64 q,.view _ (.typ .itm its) n 2 _],.c (.int .i64 l)],[]=>
  some (.c (.int .i64 (szF l (jU its))),[],[decide (n=its.length),pG its,decide (0≤l),decide (l≤1048576)])
 |_,_=>none
theorem mSL:aS Tryz.prog 15 HD:=by
 intro args h res h' o hnorm he ho
 unfold HD at he
 split at he
 case h_2=>cases he
 rename_i q nl its n cap l
 simp only[Option.some.injEq,Prod.mk.injEq]at he
 obtain⟨rfl,rfl,rfl⟩:=he
 simp only[List.mem_cons,List.not_mem_nil,or_false,forall_eq_or_imp,forall_eq,decide_eq_true_eq]at ho
 obtain⟨o1,o2,o3,o4⟩:=ho
 simp only[b8,AV.norm,bA,aF.norm,Con.size,List.cons.injEq,AV.c.injEq,AV.agg.injEq,aF.view.injEq,aL,true_and,and_true]at hnorm
 obtain⟨rfl,_,rfl⟩:=hnorm
 subst o1
 have h3:=decide_eq_true o3
 have h4:=decide_eq_true o4
 cases h2:decide (szF l (jU its)<0)with
 |true=>
  have e:szF l (jU its)= -1:=by
   by_cases c:l-(jU its:Int)<0
   ·exact a8W c
   ·have:=of_decide_eq_true h2;rw[a8X c]at this;omega
  rw[e]
  exact cF OH (a4I q its l []) (by kernel_rfl) (by kernel_rfl) rfl (by simp only[h2,h3,h4,o2,decide_true,rpS,decide_false,beq_self_eq_true,bne_self_eq_false,Bool.not_true,Bool.not_false,Bool.not_not,cond_true,cond_false,Bool.true_and,Bool.and_true,Bool.false_and,Bool.and_false,Bool.or_true,Bool.true_or,Bool.or_false,Bool.false_or,Bool.and_eq_true,Bool.not_eq_true',decide_eq_true_eq,decide_eq_false_iff_not,true_and,and_true])
 |false=>exact cF OH (a4J q its l []) (by kernel_rfl) (by kernel_rfl) rfl (by simp only[h2,h3,h4,o2,decide_true,rpS,decide_false,beq_self_eq_true,bne_self_eq_false,Bool.not_true,Bool.not_false,Bool.not_not,cond_true,cond_false,Bool.true_and,Bool.and_true,Bool.false_and,Bool.and_false,Bool.or_true,Bool.true_or,Bool.or_false,Bool.false_or,Bool.and_eq_true,Bool.not_eq_true',decide_eq_true_eq,decide_eq_false_iff_not,true_and,and_true])
noncomputable def xM:List aZ:=[⟨15,[],nm HD⟩,⟨17,[],dV tt (a9 CD) Tryz.f17 []⟩,⟨19,[],dV tt (a9 CD) Tryz.f19 [(0,false),(0,false)]⟩,⟨18,[],nm PT⟩,⟨16,[],nm PU⟩]++CD
theorem XA:a7 Tryz.prog xM:=by
 refine a7.append ?_ X9
 intro e he
 simp only[List.mem_cons,List.not_mem_nil,or_false]at he
 rcases he with rfl|rfl|rfl|rfl|rfl
 ·exact mSL.ok
 ·exact cG hT OH bF [] (by kernel_rfl) (by kernel_rfl)
 ·exact cG hT OH bF [(0,false),(0,false)] (by kernel_rfl) (by kernel_rfl)
 ·exact mOI.ok
 ·exact mOS.ok
theorem G6:bK Tryz.prog (a9 xM):=aO XA
theorem a51 (q:Int) (its:List Itm) (lcv:List (Nat×LC)):aE tt (a9 xM) (lcv) 100 Tryz.f21 [.agg [.int .i64 q,.view none (.typ .itm its) its.length 2 none]] [] [(0,true)]=
  some ⟨.c (.int .i64 (-1)),[],(decide (its.length=its.length)&&(sdI its&&((!shB q its)&&true))),[]⟩:=by kernel_rfl
theorem a52 (q:Int) (its:List Itm) (lcv:List (Nat×LC)):aE tt (a9 xM) (lcv) 100 Tryz.f21 [.agg [.int .i64 q,.view none (.typ .itm its) its.length 2 none]] [] [(0,false)]=
  some ⟨.c (.int .i64 (jM its)),[],(decide (its.length=its.length)&&(sdI its&&(!!shB q its&&(decide (its.length=its.length)&&((decide (its.length≤274877906944))&&true))))),[]⟩:=by kernel_rfl
theorem a53 (q:Int) (its:List Itm) (lcv:List (Nat×LC)):aE tt (a9 xM) (lcv) 100 Tryz.f20 [.agg [.int .i64 q,.view none (.typ .itm its) its.length 2 none]] [] [(0,true)]=
  some ⟨.c (.int .i64 (-1)),[],(decide (its.length=its.length)&&(sdI its&&((!shB q its)&&true))),[]⟩:=by kernel_rfl
theorem a54 (q:Int) (its:List Itm) (lcv:List (Nat×LC)):aE tt (a9 xM) (lcv) 100 Tryz.f20 [.agg [.int .i64 q,.view none (.typ .itm its) its.length 2 none]] [] [(0,false)]=
  some ⟨.c (.int .i64 (jM its)),[],(decide (its.length=its.length)&&(sdI its&&(!!shB q its&&(decide (its.length=its.length)&&((decide (its.length≤274877906944))&&true))))),[]⟩:=by kernel_rfl
theorem a3Z (q:Int) (its:List Itm) (lcv:List (Nat×LC)):aE tt (a9 xM) (lcv) 100 Tryz.f3 [.agg [.int .i64 q,.view none (.typ .itm its) its.length 2 none]] [] [(0,true)]=
  some ⟨.c (.bool true),[],(decide (its.length=its.length)&&(pG its&&((decide (szF 1048576 (jU its)<0))&&true))),[]⟩:=by kernel_rfl
theorem a40 (q:Int) (its:List Itm) (lcv:List (Nat×LC)):aE tt (a9 xM) (lcv) 100 Tryz.f3 [.agg [.int .i64 q,.view none (.typ .itm its) its.length 2 none]] [] [(0,false),(0,false)]=
  some ⟨.c (.bool true),[],(decide (its.length=its.length)&&(pG its&&(!decide (szF 1048576 (jU its)<0)&&((decide (its.length=its.length)&&(decide (its.length≤274877906944)&&(its.all Itm.md&&true)))&&(decide (its.length*2=its.length*2)&&(decide (its.length=its.length)&&(sdI its&&((decide (its.length=its.length)&&(decide (its.length≤274877906944)&&(its.all Itm.md&&true)))&&(decide (its.length*2=its.length*2)&&(decide (its.length=its.length)&&(sdI its&&((!!shB q its==shB q its)&&((decide (its.length=its.length)&&(decide (its.length≤274877906944)&&(its.all Itm.md&&true)))&&(rp2 (decide (its.length*2=its.length*2)) ((!q !=q&&(decide (its.length=its.length)&&(decide (its.length≤274877906944)&&(its.all Itm.md&&(decide (its.length=its.length)&&(decide (its=its)&&true))))))&&true))))))))))))))),[]⟩:=by kernel_rfl
end
section
theorem A1 {its:List Itm} (h:jU its≤1048576):decide (its.length≤274877906944)=true∧its.all Itm.md=true∧sdI its=true:=by
 have hl:its.length≤1048576:=by unfold jU at h;omega
 have key: ∀x∈its,x.ks.length≤1048576∧ ∀y∈x.ks,y.zs≤1048576:=fun x hx=>by
  obtain⟨i,hi,rfl⟩:=List.getElem_of_mem hx
  have h1:=yG (g:=fun i=>(its.getD i aI).zs) (n:=its.length) (i:=0) (k:=i) (Nat.zero_le _) (by omega)
  have e:its.getD i aI=its[i]:=by rw[List.getD_eq_getElem?_getD,List.getElem?_eq_getElem hi];rfl
  have h1:(its.getD i aI).zs≤_:=h1
  rw[e]at h1
  unfold jU at h
  have h0:gW its[i].ks≤its[i].zs:=Nat.le_add_left _ _
  have h2:gW its[i].ks≤1048576:=by omega
  unfold gW at h2
  refine⟨by omega,fun y hy=> ?_⟩
  obtain⟨j,hj,rfl⟩:=List.getElem_of_mem hy
  have h3:=yG (g:=fun j=>(its[i].ks.getD j PK0).zs) (n:=its[i].ks.length) (i:=0) (k:=j) (Nat.zero_le _) (by omega)
  have e:its[i].ks.getD j PK0=its[i].ks[j]:=by rw[List.getD_eq_getElem?_getD,List.getElem?_eq_getElem hj];rfl
  have h3:(its[i].ks.getD j PK0).zs≤_:=h3
  rw[e]at h3
  omega
 refine⟨decide_eq_true (by omega),List.all_eq_true.2 fun x hx=>Itm.md_iff.2 ⟨decide_eq_true (by have:=(key x hx).1;omega),List.all_eq_true.2 fun y hy=> ?_⟩, ?_⟩
 ·have h2:=(key x hx).2 y hy
  unfold PK.zs at h2
  exact PK.md_iff.2 ⟨decide_eq_true (by omega),decide_eq_true (by omega),decide_eq_true (by omega),decide_eq_true (by omega)⟩
 ·simp only[sdI,sdK,PK.sd,Bool.and_eq_true,rpS,decide_eq_true_eq,List.all_eq_true]
  refine⟨by omega,fun x hx=>⟨by have:=(key x hx).1;omega,fun y hy=> ?_⟩⟩
  have h2:=(key x hx).2 y hy
  unfold PK.zs at h2
  omega
def suN (q:Int) (its:List Itm):Int:=bif shB q its then jM its else -1
def Q0:aM:=fun args h=>
 match args,h with
 |[.agg [.int .i64 q,.view _ (.typ .itm its) n 2 _]],[]=>
  some (.c (.int .i64 (suN q its)),[],[decide (n=its.length),sdI its])
 |_,_=>none
theorem mSU:aS Tryz.prog 21 Q0:=by
 intro args h res h' o hnorm he ho
 unfold Q0 at he
 split at he
 case h_2=>cases he
 rename_i q nl its n cap
 simp only[Option.some.injEq,Prod.mk.injEq]at he
 obtain⟨rfl,rfl,rfl⟩:=he
 simp only[List.mem_cons,List.not_mem_nil,or_false,forall_eq_or_imp,forall_eq,decide_eq_true_eq]at ho
 obtain⟨o1,o2⟩:=ho
 simp only[b8,AV.norm,bA,aF.norm,Con.size,List.cons.injEq,AV.c.injEq,AV.agg.injEq,aF.view.injEq,aL,true_and,and_true]at hnorm
 obtain⟨rfl,_,rfl⟩:=hnorm
 subst o1
 have hn:=decide_eq_true (l6 o2).1
 unfold suN
 cases h:shB q its with
 |false=>exact cF G6 (a51 q its []) (by kernel_rfl) (by kernel_rfl) rfl (by simp only[h,o2,decide_true,rpS,decide_false,beq_self_eq_true,bne_self_eq_false,Bool.not_true,Bool.not_false,Bool.not_not,cond_true,cond_false,Bool.true_and,Bool.and_true,Bool.false_and,Bool.and_false,Bool.or_true,Bool.true_or,Bool.or_false,Bool.false_or,Bool.and_eq_true,Bool.not_eq_true',decide_eq_true_eq,decide_eq_false_iff_not,true_and,and_true])
 |true=>exact cF G6 (a52 q its []) (by kernel_rfl) (by kernel_rfl) rfl (by simp only[h,o2,hn,decide_true,rpS,decide_false,beq_self_eq_true,bne_self_eq_false,Bool.not_true,Bool.not_false,Bool.not_not,cond_true,cond_false,Bool.true_and,Bool.and_true,Bool.false_and,Bool.and_false,Bool.or_true,Bool.true_or,Bool.or_false,Bool.false_or,Bool.and_eq_true,Bool.not_eq_true',decide_eq_true_eq,decide_eq_false_iff_not,true_and,and_true])
def Q1:aM:=fun args h=>
 match args,h with
 |[.agg [.int .i64 q,.view _ (.typ .itm its) n 2 _]],[]=>
  some (.c (.int .i64 (suN q its)),[],[decide (n=its.length),sdI its])
 |_,_=>none
theorem a8J:aS Tryz.prog 20 Q1:=by
 intro args h res h' o hnorm he ho
 unfold Q1 at he
 split at he
 case h_2=>cases he
 rename_i q nl its n cap
 simp only[Option.some.injEq,Prod.mk.injEq]at he
 obtain⟨rfl,rfl,rfl⟩:=he
 simp only[List.mem_cons,List.not_mem_nil,or_false,forall_eq_or_imp,forall_eq,decide_eq_true_eq]at ho
 obtain⟨o1,o2⟩:=ho
 simp only[b8,AV.norm,bA,aF.norm,Con.size,List.cons.injEq,AV.c.injEq,AV.agg.injEq,aF.view.injEq,aL,true_and,and_true]at hnorm
 obtain⟨rfl,_,rfl⟩:=hnorm
 subst o1
 have hn:=decide_eq_true (l6 o2).1
 unfold suN
 cases h:shB q its with
 |false=>exact cF G6 (a53 q its []) (by kernel_rfl) (by kernel_rfl) rfl (by simp only[h,o2,decide_true,rpS,decide_false,beq_self_eq_true,bne_self_eq_false,Bool.not_true,Bool.not_false,Bool.not_not,cond_true,cond_false,Bool.true_and,Bool.and_true,Bool.false_and,Bool.and_false,Bool.or_true,Bool.true_or,Bool.or_false,Bool.false_or,Bool.and_eq_true,Bool.not_eq_true',decide_eq_true_eq,decide_eq_false_iff_not,true_and,and_true])
 |true=>exact cF G6 (a54 q its []) (by kernel_rfl) (by kernel_rfl) rfl (by simp only[h,o2,hn,decide_true,rpS,decide_false,beq_self_eq_true,bne_self_eq_false,Bool.not_true,Bool.not_false,Bool.not_not,cond_true,cond_false,Bool.true_and,Bool.and_true,Bool.false_and,Bool.and_false,Bool.or_true,Bool.true_or,Bool.or_false,Bool.false_or,Bool.and_eq_true,Bool.not_eq_true',decide_eq_true_eq,decide_eq_false_iff_not,true_and,and_true])
noncomputable def L7:List aZ:=[⟨21,[],nm Q0⟩,⟨20,[],nm Q1⟩]++xM
theorem a5M:a7 Tryz.prog L7:=by
 refine a7.append ?_ XA
 intro e he
 simp only[List.mem_cons,List.not_mem_nil,or_false]at he
 rcases he with rfl|rfl
 ·exact mSU.ok
 ·exact a8J.ok
theorem a1R:bK Tryz.prog (a9 L7):=aO a5M
theorem a41 (q:Int) (its:List Itm) (lcv:List (Nat×LC)):aE tt (a9 L7) (lcv) 100 Tryz.f4 [.agg [.int .i64 q,.view none (.typ .itm its) its.length 2 none]] [] [(0,true)]=
  some ⟨.c (.bool true),[],(decide (its.length=its.length)&&(pG its&&((decide (szF 1048576 (jU its)<0))&&true))),[]⟩:=by kernel_rfl
theorem a42 (q:Int) (its:List Itm) (lcv:List (Nat×LC)):aE tt (a9 L7) (lcv) 100 Tryz.f4 [.agg [.int .i64 q,.view none (.typ .itm its) its.length 2 none]] [] [(0,false),(0,false)]=
  some ⟨.c (.bool true),[],(decide (its.length=its.length)&&(pG its&&(!decide (szF 1048576 (jU its)<0)&&((decide (its.length=its.length)&&(decide (its.length≤274877906944)&&(its.all Itm.md&&true)))&&(decide (its.length*2=its.length*2)&&(decide (its.length=its.length)&&(sdI its&&((decide (its.length=its.length)&&(decide (its.length≤274877906944)&&(its.all Itm.md&&true)))&&(decide (its.length*2=its.length*2)&&(decide (its.length=its.length)&&(sdI its&&((!suN q its !=suN q its)&&((decide (its.length=its.length)&&(decide (its.length≤274877906944)&&(its.all Itm.md&&true)))&&(rp2 (decide (its.length*2=its.length*2)) ((!q !=q&&(decide (its.length=its.length)&&(decide (its.length≤274877906944)&&(its.all Itm.md&&(decide (its.length=its.length)&&(decide (its=its)&&true))))))&&true))))))))))))))),[]⟩:=by kernel_rfl
theorem a8R (q:Int) (its:List Itm) (o:pG its=true):bE Tryz.prog 3 [.agg [.int .i64 q,.view none (.typ .itm its) its.length 2 none]] [] (.c (.bool true)) []:=by
 cases c:decide (szF 1048576 (jU its)<0)with
 |true=>exact cF G6 (a3Z q its []) (by kernel_rfl) (by kernel_rfl) rfl (by simp only[c,o,decide_true,rpS,decide_false,beq_self_eq_true,bne_self_eq_false,Bool.not_true,Bool.not_false,Bool.not_not,cond_true,cond_false,Bool.true_and,Bool.and_true,Bool.false_and,Bool.and_false,Bool.or_true,Bool.true_or,Bool.or_false,Bool.false_or,Bool.and_eq_true,Bool.not_eq_true',decide_eq_true_eq,decide_eq_false_iff_not,true_and,and_true])
 |false=>
  obtain⟨g1,g2,g3⟩:=A1 (aBC (of_decide_eq_false c))
  exact cF G6 (a40 q its []) (by kernel_rfl) (by kernel_rfl) rfl (by simp only[c,o,g1,g2,g3,eq_self,decide_true,rpS,decide_false,beq_self_eq_true,bne_self_eq_false,Bool.not_true,Bool.not_false,Bool.not_not,cond_true,cond_false,Bool.true_and,Bool.and_true,Bool.false_and,Bool.and_false,Bool.or_true,Bool.true_or,Bool.or_false,Bool.false_or,Bool.and_eq_true,Bool.not_eq_true',decide_eq_true_eq,decide_eq_false_iff_not,true_and,and_true])
theorem a8S (q:Int) (its:List Itm) (o:pG its=true):bE Tryz.prog 4 [.agg [.int .i64 q,.view none (.typ .itm its) its.length 2 none]] [] (.c (.bool true)) []:=by
 cases c:decide (szF 1048576 (jU its)<0)with
 |true=>exact cF a1R (a41 q its []) (by kernel_rfl) (by kernel_rfl) rfl (by simp only[c,o,decide_true,rpS,decide_false,beq_self_eq_true,bne_self_eq_false,Bool.not_true,Bool.not_false,Bool.not_not,cond_true,cond_false,Bool.true_and,Bool.and_true,Bool.false_and,Bool.and_false,Bool.or_true,Bool.true_or,Bool.or_false,Bool.false_or,Bool.and_eq_true,Bool.not_eq_true',decide_eq_true_eq,decide_eq_false_iff_not,true_and,and_true])
 |false=>
  obtain⟨g1,g2,g3⟩:=A1 (aBC (of_decide_eq_false c))
  exact cF a1R (a42 q its []) (by kernel_rfl) (by kernel_rfl) rfl (by simp only[c,o,g1,g2,g3,eq_self,decide_true,rpS,decide_false,beq_self_eq_true,bne_self_eq_false,Bool.not_true,Bool.not_false,Bool.not_not,cond_true,cond_false,Bool.true_and,Bool.and_true,Bool.false_and,Bool.and_false,Bool.or_true,Bool.true_or,Bool.or_false,Bool.false_or,Bool.and_eq_true,Bool.not_eq_true',decide_eq_true_eq,decide_eq_false_iff_not,true_and,and_true])
end
end Go.Proofs.YtdnfojanjejdgaaGreat.Am
