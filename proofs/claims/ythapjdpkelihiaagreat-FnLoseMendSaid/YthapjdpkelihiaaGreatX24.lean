/- DERIVED. The laws FnKeepMend, FnLoseMend, told. No statement of the program is proved here. -/
import Derived.Test.YthapjdpkelihiaaGreatX23
set_option linter.unusedSimpArgs false
set_option linter.unusedVariables false
set_option linter.unusedSectionVars false
namespace Go.Proofs.YthapjdpkelihiaaGreat.Am
noncomputable def a8J:List bF:=[⟨15,[],nm (vwM KM)⟩,⟨43,[],nm (vwM KM)⟩,⟨11,[],nm (vwM BI)⟩,⟨13,[],nm (vwM wX)⟩,⟨20,[],nm (vwM wS)⟩]++T86
theorem a8T:a8 Tryz.prog a8J:=by
 refine a8.append ?_ e86
 intro e he
 simp only[List.mem_cons,List.not_mem_nil,or_false]at he
 rcases he with rfl|rfl|rfl|rfl|rfl
 ·exact aV.ok (aV.vw mKM)
 ·exact aV.ok (aV.vw mKN)
 ·exact aV.ok (aV.vw m45)
 ·exact aV.ok (aV.vw m97)
 ·exact aV.ok (aV.vw m20)
theorem a8G:bN Tryz.prog (aB a8J):=aP a8T
def llX (b:List Int):PK:=fC (dkR b) (QS b)
def llY (b:List Int):PK:=fD (llX b) (QS b)
def llO (b:List Int):Bool:=kM (llX b) (QS b)
def a8A (b:List Int) (qz:Bool):Bool:=((!decide ((↑b.length:Int)>1048576))&&((aZ b)&&((decide ((dkR b).d.length≤274877906944))&&((decide ((llX b).a.length=(llX b).a.length))&&((decide ((llX b).b.length=(llX b).b.length))&&((decide ((llX b).c.length=(llX b).c.length))&&((decide ((llX b).d.length=(llX b).d.length))&&((decide ((dkR b).a.length≤274877906944))&&((decide ((dkR b).d.length≤274877906944))&&((decide ((llX b).a.length=(llX b).a.length))&&((decide ((llX b).b.length=(llX b).b.length))&&((decide ((llX b).c.length=(llX b).c.length))&&((decide ((llX b).d.length=(llX b).d.length))&&((decide ((llX b).a.length≤274877906944))&&((decide ((llX b).b.length≤274877906944))&&((decide ((llX b).c.length≤274877906944))&&((decide ((llX b).d.length≤274877906944))&&((kpE (llX b) (llX b))&&((decide ((dkR b).a.length≤274877906944))&&((decide ((dkR b).d.length≤274877906944))&&qz))))))))))))))))))))
def a8B (b:List Int) (qz:Bool):Bool:=((!!aO (dkR b).k (dkR b).a (dkR b).b (dkR b).c (dkR b).on (dkR b).kd (dkR b).d (dkR b).vs)&&((!!aO (dkR b).k (dkR b).a (dkR b).b (dkR b).c (dkR b).on (dkR b).kd (dkR b).d (dkR b).vs)&&qz))
def a8C (b:List Int) (qz:Bool):Bool:=((!bif !aO (dkR b).k (dkR b).a (dkR b).b (dkR b).c (dkR b).on (dkR b).kd (dkR b).d (dkR b).vs then true else decide (QS b≥8))&&((!bif !aO (dkR b).k (dkR b).a (dkR b).b (dkR b).c (dkR b).on (dkR b).kd (dkR b).d (dkR b).vs then true else decide (QS b≥8))&&qz))
def a8D (b:List Int) (qz:Bool):Bool:=((!bif bif !aO (dkR b).k (dkR b).a (dkR b).b (dkR b).c (dkR b).on (dkR b).kd (dkR b).d (dkR b).vs then true else decide (QS b≥8)then true else(dkR b).on)&&((!bif bif !aO (dkR b).k (dkR b).a (dkR b).b (dkR b).c (dkR b).on (dkR b).kd (dkR b).d (dkR b).vs then true else decide (QS b≥8)then true else(dkR b).on)&&((!bif bif !aO (dkR b).k (dkR b).a (dkR b).b (dkR b).c (dkR b).on (dkR b).kd (dkR b).d (dkR b).vs then true else decide (QS b≥8)then true else(dkR b).on)&&((!bif bif !aO (dkR b).k (dkR b).a (dkR b).b (dkR b).c (dkR b).on (dkR b).kd (dkR b).d (dkR b).vs then true else decide (QS b≥8)then true else(dkR b).on)&&((!bif bif !aO (dkR b).k (dkR b).a (dkR b).b (dkR b).c (dkR b).on (dkR b).kd (dkR b).d (dkR b).vs then true else decide (QS b≥8)then true else(dkR b).on)&&((decide (0≤QS b))&&((decide (QS b<(↑(llX b).c.length:Int)))&&((!bif bif !aO (dkR b).k (dkR b).a (dkR b).b (dkR b).c (dkR b).on (dkR b).kd (dkR b).d (dkR b).vs then true else decide (QS b≥8)then true else(dkR b).on)&&((decide ((QS b).toNat<(llX b).c.length))&&qz)))))))))
def a8E (b:List Int) (qz:Bool):Bool:=((!bif bif bif !aO (dkR b).k (dkR b).a (dkR b).b (dkR b).c (dkR b).on (dkR b).kd (dkR b).d (dkR b).vs then true else decide (QS b≥8)then true else(dkR b).on then true else(llX b).c.getD (QS b).toNat false)&&((!bif bif bif !aO (dkR b).k (dkR b).a (dkR b).b (dkR b).c (dkR b).on (dkR b).kd (dkR b).d (dkR b).vs then true else decide (QS b≥8)then true else(dkR b).on then true else(llX b).c.getD (QS b).toNat false)&&((!bif bif bif !aO (dkR b).k (dkR b).a (dkR b).b (dkR b).c (dkR b).on (dkR b).kd (dkR b).d (dkR b).vs then true else decide (QS b≥8)then true else(dkR b).on then true else(llX b).c.getD (QS b).toNat false)&&((!bif bif bif !aO (dkR b).k (dkR b).a (dkR b).b (dkR b).c (dkR b).on (dkR b).kd (dkR b).d (dkR b).vs then true else decide (QS b≥8)then true else(dkR b).on then true else(llX b).c.getD (QS b).toNat false)&&((!bif bif bif !aO (dkR b).k (dkR b).a (dkR b).b (dkR b).c (dkR b).on (dkR b).kd (dkR b).d (dkR b).vs then true else decide (QS b≥8)then true else(dkR b).on then true else(llX b).c.getD (QS b).toNat false)&&((decide (0≤QS b))&&((decide (QS b<(↑(dkR b).c.length:Int)))&&((!bif bif bif !aO (dkR b).k (dkR b).a (dkR b).b (dkR b).c (dkR b).on (dkR b).kd (dkR b).d (dkR b).vs then true else decide (QS b≥8)then true else(dkR b).on then true else(llX b).c.getD (QS b).toNat false)&&((decide ((QS b).toNat<(dkR b).c.length))&&((!bif bif bif !aO (dkR b).k (dkR b).a (dkR b).b (dkR b).c (dkR b).on (dkR b).kd (dkR b).d (dkR b).vs then true else decide (QS b≥8)then true else(dkR b).on then true else(llX b).c.getD (QS b).toNat false)&&qz))))))))))
def a8F (b:List Int) (qz:Bool):Bool:=((!bif bif bif bif !aO (dkR b).k (dkR b).a (dkR b).b (dkR b).c (dkR b).on (dkR b).kd (dkR b).d (dkR b).vs then true else decide (QS b≥8)then true else(dkR b).on then true else(llX b).c.getD (QS b).toNat false then true else !(dkR b).c.getD (QS b).toNat false)&&((decide ((llX b).a.length≤274877906944))&&((decide ((llX b).d.length≤274877906944))&&((decide ((llY b).a.length=(llY b).a.length))&&((decide ((llY b).b.length=(llY b).b.length))&&((decide ((llY b).c.length=(llY b).c.length))&&((decide ((llY b).d.length=(llY b).d.length))&&qz)))))))
noncomputable abbrev a8H (b:List Int) (p:iM):Option xG:=aG tt (aB a8J) ([]) 100 Tryz.f3 [.c (.view none (.ints .u8 b) b.length 1 none)] [] p
theorem a8M (b:List Int):a8H b [(0,true)]=
  some ⟨.c (.bool true),[],((decide ((↑b.length:Int)>1048576))&&true),[]⟩:=by kernel_rfl
theorem a8N (b:List Int):a8H b [(0,false),(1,true)]=
  some ⟨.c (.bool true),[],(a8A b (!aO (dkR b).k (dkR b).a (dkR b).b (dkR b).c (dkR b).on (dkR b).kd (dkR b).d (dkR b).vs&&(!aO (dkR b).k (dkR b).a (dkR b).b (dkR b).c (dkR b).on (dkR b).kd (dkR b).d (dkR b).vs&&(!aO (dkR b).k (dkR b).a (dkR b).b (dkR b).c (dkR b).on (dkR b).kd (dkR b).d (dkR b).vs&&(decide ((dkR b).a.length≤274877906944)&&(decide ((dkR b).d.length≤274877906944)&&(decide ((llX b).a.length=(llX b).a.length)&&(decide ((llX b).b.length=(llX b).b.length)&&(decide ((llX b).c.length=(llX b).c.length)&&(decide ((llX b).d.length=(llX b).d.length)&&(decide ((llX b).a.length≤274877906944)&&(decide ((llX b).b.length≤274877906944)&&(decide ((llX b).c.length≤274877906944)&&(decide ((llX b).d.length≤274877906944)&&((kpE (llX b) (llX b))&&true))))))))))))))),[]⟩:=by kernel_rfl
theorem a8O (b:List Int):a8H b [(0,false),(1,false),(0,true)]=
  some ⟨.c (.bool true),[],(a8A b (a8B b ((bif !aO (dkR b).k (dkR b).a (dkR b).b (dkR b).c (dkR b).on (dkR b).kd (dkR b).d (dkR b).vs then true else decide (QS b≥8))&&((bif !aO (dkR b).k (dkR b).a (dkR b).b (dkR b).c (dkR b).on (dkR b).kd (dkR b).d (dkR b).vs then true else decide (QS b≥8))&&((bif !aO (dkR b).k (dkR b).a (dkR b).b (dkR b).c (dkR b).on (dkR b).kd (dkR b).d (dkR b).vs then true else decide (QS b≥8))&&(decide ((dkR b).a.length≤274877906944)&&(decide ((dkR b).d.length≤274877906944)&&(decide ((llX b).a.length=(llX b).a.length)&&(decide ((llX b).b.length=(llX b).b.length)&&(decide ((llX b).c.length=(llX b).c.length)&&(decide ((llX b).d.length=(llX b).d.length)&&(decide ((llX b).a.length≤274877906944)&&(decide ((llX b).b.length≤274877906944)&&(decide ((llX b).c.length≤274877906944)&&(decide ((llX b).d.length≤274877906944)&&((kpE (llX b) (llX b))&&true)))))))))))))))),[]⟩:=by kernel_rfl
theorem a8P (b:List Int):a8H b [(0,false),(1,false),(0,false),(0,true)]=
  some ⟨.c (.bool true),[],(a8A b (a8B b (a8C b ((bif bif !aO (dkR b).k (dkR b).a (dkR b).b (dkR b).c (dkR b).on (dkR b).kd (dkR b).d (dkR b).vs then true else decide (QS b≥8)then true else(dkR b).on)&&((bif bif !aO (dkR b).k (dkR b).a (dkR b).b (dkR b).c (dkR b).on (dkR b).kd (dkR b).d (dkR b).vs then true else decide (QS b≥8)then true else(dkR b).on)&&((bif bif !aO (dkR b).k (dkR b).a (dkR b).b (dkR b).c (dkR b).on (dkR b).kd (dkR b).d (dkR b).vs then true else decide (QS b≥8)then true else(dkR b).on)&&((bif bif !aO (dkR b).k (dkR b).a (dkR b).b (dkR b).c (dkR b).on (dkR b).kd (dkR b).d (dkR b).vs then true else decide (QS b≥8)then true else(dkR b).on)&&((bif bif !aO (dkR b).k (dkR b).a (dkR b).b (dkR b).c (dkR b).on (dkR b).kd (dkR b).d (dkR b).vs then true else decide (QS b≥8)then true else(dkR b).on)&&((bif bif !aO (dkR b).k (dkR b).a (dkR b).b (dkR b).c (dkR b).on (dkR b).kd (dkR b).d (dkR b).vs then true else decide (QS b≥8)then true else(dkR b).on)&&((bif bif !aO (dkR b).k (dkR b).a (dkR b).b (dkR b).c (dkR b).on (dkR b).kd (dkR b).d (dkR b).vs then true else decide (QS b≥8)then true else(dkR b).on)&&(decide ((dkR b).a.length≤274877906944)&&(decide ((dkR b).d.length≤274877906944)&&(decide ((llX b).a.length=(llX b).a.length)&&(decide ((llX b).b.length=(llX b).b.length)&&(decide ((llX b).c.length=(llX b).c.length)&&(decide ((llX b).d.length=(llX b).d.length)&&(decide ((llX b).a.length≤274877906944)&&(decide ((llX b).b.length≤274877906944)&&(decide ((llX b).c.length≤274877906944)&&(decide ((llX b).d.length≤274877906944)&&((kpE (llX b) (llX b))&&true))))))))))))))))))))),[]⟩:=by kernel_rfl
theorem a8Q (b:List Int):a8H b [(0,false),(1,false),(0,false),(0,false),(0,true)]=
  some ⟨.c (.bool true),[],(a8A b (a8B b (a8C b (a8D b ((bif bif bif !aO (dkR b).k (dkR b).a (dkR b).b (dkR b).c (dkR b).on (dkR b).kd (dkR b).d (dkR b).vs then true else decide (QS b≥8)then true else(dkR b).on then true else(llX b).c.getD (QS b).toNat false)&&((bif bif bif !aO (dkR b).k (dkR b).a (dkR b).b (dkR b).c (dkR b).on (dkR b).kd (dkR b).d (dkR b).vs then true else decide (QS b≥8)then true else(dkR b).on then true else(llX b).c.getD (QS b).toNat false)&&((bif bif bif !aO (dkR b).k (dkR b).a (dkR b).b (dkR b).c (dkR b).on (dkR b).kd (dkR b).d (dkR b).vs then true else decide (QS b≥8)then true else(dkR b).on then true else(llX b).c.getD (QS b).toNat false)&&((bif bif bif !aO (dkR b).k (dkR b).a (dkR b).b (dkR b).c (dkR b).on (dkR b).kd (dkR b).d (dkR b).vs then true else decide (QS b≥8)then true else(dkR b).on then true else(llX b).c.getD (QS b).toNat false)&&((bif bif bif !aO (dkR b).k (dkR b).a (dkR b).b (dkR b).c (dkR b).on (dkR b).kd (dkR b).d (dkR b).vs then true else decide (QS b≥8)then true else(dkR b).on then true else(llX b).c.getD (QS b).toNat false)&&((bif bif bif !aO (dkR b).k (dkR b).a (dkR b).b (dkR b).c (dkR b).on (dkR b).kd (dkR b).d (dkR b).vs then true else decide (QS b≥8)then true else(dkR b).on then true else(llX b).c.getD (QS b).toNat false)&&((bif bif bif !aO (dkR b).k (dkR b).a (dkR b).b (dkR b).c (dkR b).on (dkR b).kd (dkR b).d (dkR b).vs then true else decide (QS b≥8)then true else(dkR b).on then true else(llX b).c.getD (QS b).toNat false)&&((bif bif bif !aO (dkR b).k (dkR b).a (dkR b).b (dkR b).c (dkR b).on (dkR b).kd (dkR b).d (dkR b).vs then true else decide (QS b≥8)then true else(dkR b).on then true else(llX b).c.getD (QS b).toNat false)&&(decide ((dkR b).a.length≤274877906944)&&(decide ((dkR b).d.length≤274877906944)&&(decide ((llX b).a.length=(llX b).a.length)&&(decide ((llX b).b.length=(llX b).b.length)&&(decide ((llX b).c.length=(llX b).c.length)&&(decide ((llX b).d.length=(llX b).d.length)&&(decide ((llX b).a.length≤274877906944)&&(decide ((llX b).b.length≤274877906944)&&(decide ((llX b).c.length≤274877906944)&&(decide ((llX b).d.length≤274877906944)&&((kpE (llX b) (llX b))&&true))))))))))))))))))))))),[]⟩:=by kernel_rfl
theorem a8R (b:List Int):a8H b [(0,false),(1,false),(0,false),(0,false),(0,false),(0,true)]=
  some ⟨.c (.bool true),[],(a8A b (a8B b (a8C b (a8D b (a8E b ((bif bif bif bif !aO (dkR b).k (dkR b).a (dkR b).b (dkR b).c (dkR b).on (dkR b).kd (dkR b).d (dkR b).vs then true else decide (QS b≥8)then true else(dkR b).on then true else(llX b).c.getD (QS b).toNat false then true else !(dkR b).c.getD (QS b).toNat false)&&(decide ((dkR b).a.length≤274877906944)&&(decide ((dkR b).d.length≤274877906944)&&(decide ((llX b).a.length=(llX b).a.length)&&(decide ((llX b).b.length=(llX b).b.length)&&(decide ((llX b).c.length=(llX b).c.length)&&(decide ((llX b).d.length=(llX b).d.length)&&(decide ((llX b).a.length≤274877906944)&&(decide ((llX b).b.length≤274877906944)&&(decide ((llX b).c.length≤274877906944)&&(decide ((llX b).d.length≤274877906944)&&((kpE (llX b) (llX b))&&true))))))))))))))))),[]⟩:=by kernel_rfl
theorem a8S (b:List Int):a8H b [(0,false),(1,false),(0,false),(0,false),(0,false),(0,false),(0,true)]=
  some ⟨.c (.bool (bif llO b then true else false)),[],(a8A b (a8B b (a8C b (a8D b (a8E b (a8F b (llO b&&(llO b&&(llO b&&(decide ((llY b).a.length≤274877906944)&&(decide ((llY b).b.length≤274877906944)&&(decide ((llY b).c.length≤274877906944)&&(decide ((llY b).d.length≤274877906944)&&((kpE (llY b) (dkR b))&&true)))))))))))))),[]⟩:=by kernel_rfl
theorem a89 {n m:Nat} (h:n≤m) (hm:m≤274877906944):decide (n≤274877906944)=true:=decide_eq_true (Nat.le_trans h hm)
theorem a8I (x:PK) (i:Int) (ha:x.a.length≤8) (hd:x.d.length≤4):(fC x i).a.length≤8∧(fC x i).b.length≤8∧(fC x i).c.length≤8∧(fC x i).d.length≤4:=by
 cases h:x.ok&&bet i 0 7 with
 |false=>unfold fC;rw[h];exact⟨by show 0≤8;omega,by show 0≤8;omega,by show 0≤8;omega,by show 0≤4;omega⟩
 |true=>
  rw[Bool.and_eq_true]at h
  have:=gG (E9 h.1 h.2)
  omega
theorem a8L (b:List Int) (o1:aZ b=true):bE Tryz.prog 3 [.c (.view none (.ints .u8 b) b.length 1 none)] [] (.c (.bool true)) []:=by
 cases c1:decide ((b.length:Int)>1048576)with
 |true=>exact a5 a8G (by kernel_rfl) (by kernel_rfl) (a8M b) (by rw[c1];rfl) (by simp) (fun cc _=>aF.nil)
 |false=>
  obtain⟨z1,z2⟩:=a5C b
  have h0:=WR b
  have p0:decide (0≤QS b)=true:=decide_eq_true h0
  obtain⟨g1,g2,g3,g4⟩:=a8I (dkR b) (QS b) z1 z2
  have a1:=a89 z1 (by decide)
  have a2:=a89 z2 (by decide)
  have b1:decide ((llX b).a.length≤274877906944)=true:=a89 g1 (by decide)
  have b2:decide ((llX b).b.length≤274877906944)=true:=a89 g2 (by decide)
  have b3:decide ((llX b).c.length≤274877906944)=true:=a89 g3 (by decide)
  have b4:decide ((llX b).d.length≤274877906944)=true:=a89 g4 (by decide)
  cases hok:(dkR b).ok with
  |false=>
   have hok:aO (dkR b).k (dkR b).a (dkR b).b (dkR b).c (dkR b).on (dkR b).kd (dkR b).d (dkR b).vs=false:=hok
   exact a5 a8G (by kernel_rfl) (by kernel_rfl) (a8N b) (by simp only[a8A,a8B,a8C,a8D,a8E,a8F,c1,o1,a1,a2,b1,b2,b3,b4,hok,X4,beq_self_eq_true,decide_true,bS]) (by simp) (fun cc _=>aF.nil)
  |true=>
   have hok':aO (dkR b).k (dkR b).a (dkR b).b (dkR b).c (dkR b).on (dkR b).kd (dkR b).d (dkR b).vs=true:=hok
   cases h8:decide (QS b≥8)with
   |true=>exact a5 a8G (by kernel_rfl) (by kernel_rfl) (a8O b) (by simp only[a8A,a8B,a8C,a8D,a8E,a8F,c1,o1,a1,a2,b1,b2,b3,b4,hok',h8,X4,beq_self_eq_true,decide_true,bS]) (by simp) (fun cc _=>aF.nil)
   |false=>
    cases ho:(dkR b).on with
    |true=>exact a5 a8G (by kernel_rfl) (by kernel_rfl) (a8P b) (by simp only[a8A,a8B,a8C,a8D,a8E,a8F,c1,o1,a1,a2,b1,b2,b3,b4,ho,h8,X4,(show aO (dkR b).k (dkR b).a (dkR b).b (dkR b).c true (dkR b).kd (dkR b).d (dkR b).vs=true by have h:=hok';rw[ho]at h;exact h),beq_self_eq_true,decide_true,bS]) (by simp) (fun cc _=>aF.nil)
    |false=>
     have hi:bet (QS b) 0 7=true:=b8.2 (by have:=of_decide_eq_false h8;omega)
     have h7:=of_decide_eq_false h8
     obtain⟨-,la,lb,lc⟩:=gG hok
     have lx:(llX b).c.length=8:=(gG (E9 hok hi)).2.2.2
     have q1:decide (QS b<(((dkR b).c.length:Nat):Int))=true:=decide_eq_true (by omega)
     have q2:decide ((QS b).toNat<(dkR b).c.length)=true:=decide_eq_true (by omega)
     have q3:decide (QS b<(((llX b).c.length:Nat):Int))=true:=decide_eq_true (by omega)
     have q4:decide ((QS b).toNat<(llX b).c.length)=true:=decide_eq_true (by omega)
     have hk2:aO (dkR b).k (dkR b).a (dkR b).b (dkR b).c false (dkR b).kd (dkR b).d (dkR b).vs=true:=by have h:=hok';rw[ho]at h;exact h
     cases hx:(llX b).c.getD (QS b).toNat false with
     |true=>exact a5 a8G (by kernel_rfl) (by kernel_rfl) (a8Q b) (by simp only[a8A,a8B,a8C,a8D,a8E,a8F,c1,o1,a1,a2,b1,b2,b3,b4,ho,hk2,h8,hx,p0,q3,q4,X4,beq_self_eq_true,decide_true,bS]) (by simp) (fun cc _=>aF.nil)
     |false=>
      cases hy:(dkR b).c.getD (QS b).toNat false with
      |false=>exact a5 a8G (by kernel_rfl) (by kernel_rfl) (a8R b) (by simp only[a8A,a8B,a8C,a8D,a8E,a8F,c1,o1,a1,a2,b1,b2,b3,b4,ho,hk2,h8,hx,hy,p0,q1,q2,q3,q4,X4,beq_self_eq_true,decide_true,bS]) (by simp) (fun cc _=>aF.nil)
      |true=>
       obtain⟨l1,l2⟩:=WG hok ho hi hy hx
       have l1:llY b=dkR b:=l1
       have l2:llO b=true:=l2
       have e:=a8S b
       simp only[l2,cond_true]at e
       exact a5 a8G (by kernel_rfl) (by kernel_rfl) e (by simp only[a8A,a8B,a8C,a8D,a8E,a8F,c1,o1,a1,a2,b1,b2,b3,b4,ho,hk2,h8,hx,hy,p0,q1,q2,q3,q4,l1,l2,X4,beq_self_eq_true,decide_true,bS];omega) (by simp) (fun cc _=>aF.nil)
end Go.Proofs.YthapjdpkelihiaaGreat.Am
