/- DERIVED. The law FnTurnAll, told. No statement of the program is proved here. -/
import Derived.Test.YthapjdpkelihiaaGreatX18
set_option linter.unusedSimpArgs false
set_option linter.unusedVariables false
set_option linter.unusedSectionVars false
namespace Go.Proofs.YthapjdpkelihiaaGreat.Am
noncomputable def T87:List Entry:=[⟨21,[],nm (vwM FFredo)⟩,⟨19,[],nm (vwM FFshard)⟩,⟨11,[],nm (vwM FFlose)⟩,⟨13,[],nm (vwM FFloseS)⟩,⟨20,[],nm (vwM FFkread)⟩,⟨18,[],nm (vwM FFbeg)⟩,⟨17,[],nm (vwM FFbegS)⟩,⟨22,[],nm (vwM FFsnew)⟩,⟨29,[],nm (vwM FFTA)⟩,⟨27,[],nm (vwM FFTS)⟩]++T86
theorem e87:EntriesOk Tryz.prog T87:=by
 refine EntriesOk.append ?_ e86
 intro e he
 simp only[List.mem_cons,List.not_mem_nil,or_false]at he
 rcases he with rfl|rfl|rfl|rfl|rfl|rfl|rfl|rfl|rfl|rfl
 ·exact ModelN.ok (ModelN.vw m16)
 ·exact ModelN.ok (ModelN.vw m26)
 ·exact ModelN.ok (ModelN.vw m45)
 ·exact ModelN.ok (ModelN.vw m97)
 ·exact ModelN.ok (ModelN.vw m20)
 ·exact ModelN.ok (ModelN.vw m36)
 ·exact ModelN.ok (ModelN.vw m35)
 ·exact ModelN.ok (ModelN.vw mSN)
 ·exact ModelN.ok (ModelN.vw mTA)
 ·exact ModelN.ok (ModelN.vw mTS)
theorem t87:CtOk Tryz.prog (ctOf T87):=ctOf_ok e87
def taX (b:List Int):PK:=taK (dkQ b).1 (dkK b)
def taO (b:List Int):Bool:=tbB (dkQ b).1 (dkK b)
def taD (b:List Int):List Int:=krD (dkQ b).1.k (dkQ b).1.a (dkQ b).1.b (dkQ b).1.c (dkQ b).1.on (dkQ b).1.kd (dkQ b).1.d (dkQ b).1.vs
def taS (b:List Int):PK:=snK (dkK b) (taD b) (stopL (taX b).k (taX b).a (taX b).b (taX b).c)
def taY (b:List Int):PK:=taK (taX b) (dkQ b).1.k
def yTA_p1 (b:List Int) (qz:Bool):Bool:=((!decide ((↑b.length:Int)>1048576))&&((byteB b)&&((decide ((dkQ b).1.2.length≤274877906944))&&((decide ((dkQ b).1.7.length≤274877906944))&&((decide ((taX b).a.length=(taX b).a.length))&&((decide ((taX b).b.length=(taX b).b.length))&&((decide ((taX b).c.length=(taX b).c.length))&&((decide ((taX b).d.length=(taX b).d.length))&&((decide ((dkQ b).1.7.length≤274877906944))&&((decide ((taX b).a.length=(taX b).a.length))&&((decide ((taX b).b.length=(taX b).b.length))&&((decide ((taX b).c.length=(taX b).c.length))&&((decide ((taX b).d.length=(taX b).d.length))&&qz)))))))))))))
def yTA_p2 (b:List Int) (qz:Bool):Bool:=((!!taO b==taO b)&&((!!taO b==taO b)&&((!!taO b==taO b)&&((decide ((taX b).a.length≤274877906944))&&((decide ((taX b).b.length≤274877906944))&&((decide ((taX b).c.length≤274877906944))&&((decide ((taX b).d.length≤274877906944))&&((kpE (taX b) (taX b))&&((!!taO b==taO b)&&((!bif !taO b==taO b then true else false)&&((!bif !taO b==taO b then true else false)&&qz)))))))))))
def yTA_p3 (b:List Int) (qz:Bool):Bool:=((!bif bif !taO b==taO b then true else false then true else !taO b)&&((decide ((dkQ b).1.7.length≤274877906944))&&((decide ((taD b).length=(taD b).length))&&((decide ((taD b).length≤274877906944))&&((decide ((taS b).a.length=(taS b).a.length))&&((decide ((taS b).b.length=(taS b).b.length))&&((decide ((taS b).c.length=(taS b).c.length))&&((decide ((taX b).d.length≤274877906944))&&((decide ((taY b).a.length=(taY b).a.length))&&((decide ((taY b).b.length=(taY b).b.length))&&((decide ((taY b).c.length=(taY b).c.length))&&((decide ((taY b).d.length=(taY b).d.length))&&((decide ((taY b).d.length≤274877906944))&&((decide ((krD (taY b).k (taY b).a (taY b).b (taY b).c (taY b).on (taY b).kd (taY b).d (taY b).vs).length=(krD (taY b).k (taY b).a (taY b).b (taY b).c (taY b).on (taY b).kd (taY b).d (taY b).vs).length))&&qz))))))))))))))
def yTA_p4 (b:List Int) (qz:Bool):Bool:=((snB (dkK b) (taD b) (stopL (taX b).k (taX b).a (taX b).b (taX b).c))&&((snB (dkK b) (taD b) (stopL (taX b).k (taX b).a (taX b).b (taX b).c))&&((snB (dkK b) (taD b) (stopL (taX b).k (taX b).a (taX b).b (taX b).c))&&((snB (dkK b) (taD b) (stopL (taX b).k (taX b).a (taX b).b (taX b).c))&&(((taX b).k==(taS b).k)&&((decide ((taX b).a.length≤274877906944))&&((lkI (taX b).a (taS b).a)&&((decide ((taX b).b.length≤274877906944))&&((lkI (taX b).b (taS b).b)&&((decide ((taX b).c.length≤274877906944))&&((lkB (taX b).c (taS b).c)&&((bif snB (dkK b) (taD b) (stopL (taX b).k (taX b).a (taX b).b (taX b).c)then true else false)&&((bif snB (dkK b) (taD b) (stopL (taX b).k (taX b).a (taX b).b (taX b).c)then true else false)&&((bif snB (dkK b) (taD b) (stopL (taX b).k (taX b).a (taX b).b (taX b).c)then true else false)&&qz))))))))))))))
def yTA_p5 (b:List Int) (qz:Bool):Bool:=((bif bif snB (dkK b) (taD b) (stopL (taX b).k (taX b).a (taX b).b (taX b).c)then true else false then !(taX b).on else false)&&((bif bif snB (dkK b) (taD b) (stopL (taX b).k (taX b).a (taX b).b (taX b).c)then true else false then !(taX b).on else false)&&((bif bif snB (dkK b) (taD b) (stopL (taX b).k (taX b).a (taX b).b (taX b).c)then true else false then !(taX b).on else false)&&qz)))
def yTA_p6 (b:List Int) (qz:Bool):Bool:=((!!tbB (taX b) (dkQ b).1.1)&&((!!tbB (taX b) (dkQ b).1.1)&&qz))
noncomputable abbrev yTAE (b:List Int) (p:Path):Option FOut:=evalF tt (ctOf T87) ([]) 100 Tryz.f7 [.c (.view none (.ints .u8 b) b.length 1 none)] [] p
theorem yTA_1 (b:List Int):yTAE b [(0,true)]=
  some ⟨.c (.bool true),[],((decide ((↑b.length:Int)>1048576))&&true),[]⟩:=by kernel_rfl
theorem yTA_3 (b:List Int):yTAE b [(0,false),(0,false),(0,false),(0,true),(0,true)]=
  some ⟨.c (.bool (bif taO b==taO b then true else false)),[],(yTA_p1 b (yTA_p2 b ((bif bif !taO b==taO b then true else false then true else !taO b)&&((taO b==taO b)&&((taO b==taO b)&&((taO b==taO b)&&(decide ((taX b).a.length≤274877906944)&&(decide ((taX b).b.length≤274877906944)&&(decide ((taX b).c.length≤274877906944)&&(decide ((taX b).d.length≤274877906944)&&((kpE (taX b) (taX b))&&true))))))))))),[]⟩:=by kernel_rfl
theorem yTA_4 (b:List Int):yTAE b [(0,false),(0,false),(0,false),(0,false),(0,true),(0,true),(0,true),(0,true)]=
  some ⟨.c (.bool (bif bif bif snB (dkK b) (taD b) (stopL (taX b).k (taX b).a (taX b).b (taX b).c)then true else false then !(taX b).on else false then true else false)),[],(yTA_p1 b (yTA_p2 b (yTA_p3 b (yTA_p4 b (yTA_p5 b (!tbB (taX b) (dkQ b).1.1&&(!tbB (taX b) (dkQ b).1.1&&(!tbB (taX b) (dkQ b).1.1&&(!tbB (taX b) (dkQ b).1.1&&(!tbB (taX b) (dkQ b).1.1&&((bif bif snB (dkK b) (taD b) (stopL (taX b).k (taX b).a (taX b).b (taX b).c)then true else false then !(taX b).on else false)&&((!tbB (taX b) (dkQ b).1.1)&&true)))))))))))),[]⟩:=by kernel_rfl
theorem yTA_5 (b:List Int):yTAE b [(0,false),(0,false),(0,false),(0,false),(0,true),(0,true),(0,true),(0,false),(0,true),(0,true)]=
  some ⟨.c (.bool (bif bif bif snB (dkK b) (taD b) (stopL (taX b).k (taX b).a (taX b).b (taX b).c)then true else false then !(taX b).on else false then bif !tbB (taX b) (dkQ b).1.1 then true else bif bif krB (taY b).k (taY b).a (taY b).b (taY b).c (taY b).on (taY b).kd (taY b).d (taY b).vs then true else false then(taY b).k==(dkQ b).1.1 else false else false)),[],(yTA_p1 b (yTA_p2 b (yTA_p3 b (yTA_p4 b (yTA_p5 b (yTA_p6 b (krB (taY b).k (taY b).a (taY b).b (taY b).c (taY b).on (taY b).kd (taY b).d (taY b).vs&&(krB (taY b).k (taY b).a (taY b).b (taY b).c (taY b).on (taY b).kd (taY b).d (taY b).vs&&(krB (taY b).k (taY b).a (taY b).b (taY b).c (taY b).on (taY b).kd (taY b).d (taY b).vs&&(decide ((krD (taY b).k (taY b).a (taY b).b (taY b).c (taY b).on (taY b).kd (taY b).d (taY b).vs).length≤274877906944)&&(lkI (krD (taY b).k (taY b).a (taY b).b (taY b).c (taY b).on (taY b).kd (taY b).d (taY b).vs) (taD b)&&(!!tbB (taX b) (dkQ b).1.1&&(!!tbB (taX b) (dkQ b).1.1&&((bif krB (taY b).k (taY b).a (taY b).b (taY b).c (taY b).on (taY b).kd (taY b).d (taY b).vs then true else false)&&((bif krB (taY b).k (taY b).a (taY b).b (taY b).c (taY b).on (taY b).kd (taY b).d (taY b).vs then true else false)&&((bif krB (taY b).k (taY b).a (taY b).b (taY b).c (taY b).on (taY b).kd (taY b).d (taY b).vs then true else false)&&((bif krB (taY b).k (taY b).a (taY b).b (taY b).c (taY b).on (taY b).kd (taY b).d (taY b).vs then true else false)&&((bif krB (taY b).k (taY b).a (taY b).b (taY b).c (taY b).on (taY b).kd (taY b).d (taY b).vs then true else false)&&((bif krB (taY b).k (taY b).a (taY b).b (taY b).c (taY b).on (taY b).kd (taY b).d (taY b).vs then true else false)&&((bif krB (taY b).k (taY b).a (taY b).b (taY b).c (taY b).on (taY b).kd (taY b).d (taY b).vs then true else false)&&(!!tbB (taX b) (dkQ b).1.1&&((bif bif snB (dkK b) (taD b) (stopL (taX b).k (taX b).a (taX b).b (taX b).c)then true else false then !(taX b).on else false)&&true)))))))))))))))))))))),[]⟩:=by kernel_rfl
theorem lawTA (b:List Int) (o1:byteB b=true):Meets Tryz.prog 7 [.c (.view none (.ints .u8 b) b.length 1 none)] [] (.c (.bool true)) []:=by
 cases c1:decide ((b.length:Int)>1048576)with
 |true=>exact meets_of t87 (by kernel_rfl) (by kernel_rfl) (yTA_1 b) (by rw[c1];rfl) (by simp) (fun cc _=>LcOk.nil)
 |false=>
  obtain⟨z1,z2,z3⟩:=dkQ_sz b
  obtain⟨g1,g2,g3,g4⟩:=ta_szs (dkQ b).1 (dkK b)
  have a1:decide ((dkQ b).1.2.length≤274877906944)=true:=decide_eq_true (Nat.le_trans z1 (by omega))
  have a2:decide ((dkQ b).1.7.length≤274877906944)=true:=decide_eq_true (Nat.le_trans z2 (by omega))
  have b1:decide ((taX b).a.length≤274877906944)=true:=decide_eq_true (Nat.le_trans g1 (by omega))
  have b2:decide ((taX b).b.length≤274877906944)=true:=decide_eq_true (Nat.le_trans g2 (by omega))
  have b3:decide ((taX b).c.length≤274877906944)=true:=decide_eq_true (Nat.le_trans g3 (by omega))
  have b4:decide ((taX b).d.length≤274877906944)=true:=decide_eq_true (Nat.le_trans g4 (by omega))
  cases ho:taO b with
  |false=>
   have e:=yTA_3 b
   simp only[beq_self_eq_true,cond_true]at e
   exact meets_of t87 (by kernel_rfl) (by kernel_rfl) e (by simp only[yTA_p1,yTA_p2,yTA_p3,yTA_p4,yTA_p5,yTA_p6,c1,o1,a1,a2,b1,b2,b3,b4,kpE_refl,lkI_refl,lkB_refl,beq_self_eq_true,decide_true,ho,bS]) (by simp) (fun cc _=>LcOk.nil)
  |true=>
   obtain⟨f1,f2,f3,f4,f5⟩:=turn_facts (x:=(dkQ b).1) (kind:=dkK b) ho
   have f1:taX b=taS b:=f1
   have f2:snB (dkK b) (taD b) (stopL (taX b).k (taX b).a (taX b).b (taX b).c)=true:=f2
   have f3:(taX b).on=false:=f3
   have dl:decide ((taD b).length≤274877906944)=true:=decide_eq_true (rD_len (x:=(dkQ b).1) z2)
   obtain⟨-,-,-,y4⟩:=ta_szs (taX b) (dkQ b).1.1
   have yl:decide ((taY b).d.length≤274877906944)=true:=decide_eq_true (Nat.le_trans y4 (by omega))
   cases hb:tbB (taX b) (dkQ b).1.1 with
   |false=>
    have e:=yTA_4 b
    simp only[f2,f3,Bool.not_false,cond_true]at e
    exact meets_of t87 (by kernel_rfl) (by kernel_rfl) e (by simp only[yTA_p1,yTA_p2,yTA_p3,yTA_p4,yTA_p5,yTA_p6,c1,o1,a1,a2,b1,b2,b3,b4,kpE_refl,lkI_refl,lkB_refl,beq_self_eq_true,decide_true,ho,f2,f3,dl,←f1,hb,yl,bS]) (by simp) (fun cc _=>LcOk.nil)
   |true=>
    obtain⟨h1,h2,h3⟩:=back_facts (x:=(dkQ b).1) (kind:=dkK b) ho hb
    have h1:krB (taY b).k (taY b).a (taY b).b (taY b).c (taY b).on (taY b).kd (taY b).d (taY b).vs=true:=h1
    have h2:krD (taY b).k (taY b).a (taY b).b (taY b).c (taY b).on (taY b).kd (taY b).d (taY b).vs=taD b:=h2
    have h3:((taY b).k==(dkQ b).1.1)=true:=by rw[beq_iff_eq];exact h3
    have e:=yTA_5 b
    simp only[f2,f3,hb,h1,h3,Bool.not_false,Bool.not_true,cond_true,cond_false]at e
    exact meets_of t87 (by kernel_rfl) (by kernel_rfl) e (by simp only[yTA_p1,yTA_p2,yTA_p3,yTA_p4,yTA_p5,yTA_p6,c1,o1,a1,a2,b1,b2,b3,b4,kpE_refl,lkI_refl,lkB_refl,beq_self_eq_true,decide_true,ho,f2,f3,dl,←f1,hb,h1,h2,h3,yl,bS]) (by simp) (fun cc _=>LcOk.nil)
end Go.Proofs.YthapjdpkelihiaaGreat.Am
