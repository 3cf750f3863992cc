/- DERIVED. The laws FnKeepMend, FnLoseMend, told. No statement of the program is proved here. -/
import Derived.Test.YthapjdpkelihiaaGreatX23
set_option linter.unusedSimpArgs false
set_option linter.unusedVariables false
set_option linter.unusedSectionVars false
namespace Go.Proofs.YthapjdpkelihiaaGreat.Am
noncomputable def a8K:List bF:=[⟨15,[],nm (vwM KM)⟩,⟨43,[],nm (vwM KM)⟩,⟨11,[],nm (vwM BI)⟩,⟨13,[],nm (vwM wX)⟩,⟨20,[],nm (vwM wS)⟩]++T86
theorem a8S:a8 Tryz.prog a8K:=by
 refine a8.append ?_ e86
 intro e he
 simp only[List.mem_cons,List.not_mem_nil,or_false]at he
 rcases he with rfl|rfl|rfl|rfl|rfl
 ·exact aV.ok (aV.vw mKM)
 ·exact aV.ok (aV.vw mKN)
 ·exact aV.ok (aV.vw m45)
 ·exact aV.ok (aV.vw m97)
 ·exact aV.ok (aV.vw m20)
theorem a8I:bN Tryz.prog (aB a8K):=aP a8S
def mkX (b:List Int):PK:=fD (dkR b) (QS b)
def mkO (b:List Int):Bool:=kM (dkR b) (QS b)
def a8A (b:List Int) (qz:Bool):Bool:=((!decide ((↑b.length:Int)>1048576))&&((aZ b)&&((decide ((dkR b).a.length≤274877906944))&&((decide ((dkR b).d.length≤274877906944))&&((decide ((mkX b).a.length=(mkX b).a.length))&&((decide ((mkX b).b.length=(mkX b).b.length))&&((decide ((mkX b).c.length=(mkX b).c.length))&&((decide ((mkX b).d.length=(mkX b).d.length))&&((decide ((dkR b).a.length≤274877906944))&&((decide ((dkR b).d.length≤274877906944))&&((decide ((mkX b).a.length=(mkX b).a.length))&&((decide ((mkX b).b.length=(mkX b).b.length))&&((decide ((mkX b).c.length=(mkX b).c.length))&&((decide ((mkX b).d.length=(mkX b).d.length))&&qz))))))))))))))
def a8B (b:List Int) (qz:Bool):Bool:=((!!mkO b==mkO b)&&((!!mkO b==mkO b)&&((!!mkO b==mkO b)&&((decide ((mkX b).a.length≤274877906944))&&((decide ((mkX b).b.length≤274877906944))&&((decide ((mkX b).c.length≤274877906944))&&((decide ((mkX b).d.length≤274877906944))&&((kpE (mkX b) (mkX b))&&((!!mkO b==mkO b)&&((!bif !mkO b==mkO b then true else false)&&((!bif !mkO b==mkO b then true else false)&&((decide ((dkR b).a.length≤274877906944))&&((decide ((dkR b).d.length≤274877906944))&&((!bif !mkO b==mkO b then true else false)&&qz))))))))))))))
def a8C (b:List Int) (qz:Bool):Bool:=((!bif bif !mkO b==mkO b then true else false then true else !aO (dkR b).k (dkR b).a (dkR b).b (dkR b).c (dkR b).on (dkR b).kd (dkR b).d (dkR b).vs)&&((!bif bif !mkO b==mkO b then true else false then true else !aO (dkR b).k (dkR b).a (dkR b).b (dkR b).c (dkR b).on (dkR b).kd (dkR b).d (dkR b).vs)&&qz))
def a8D (b:List Int) (qz:Bool):Bool:=((!bif bif bif !mkO b==mkO b then true else false then true else !aO (dkR b).k (dkR b).a (dkR b).b (dkR b).c (dkR b).on (dkR b).kd (dkR b).d (dkR b).vs then true else decide (QS b≥8))&&((decide ((dkR b).d.length≤274877906944))&&((decide ((krD (dkR b).k (dkR b).a (dkR b).b (dkR b).c (dkR b).on (dkR b).kd (dkR b).d (dkR b).vs).length=(krD (dkR b).k (dkR b).a (dkR b).b (dkR b).c (dkR b).on (dkR b).kd (dkR b).d (dkR b).vs).length))&&((decide ((mkX b).d.length≤274877906944))&&((decide ((krD (mkX b).k (mkX b).a (mkX b).b (mkX b).c (mkX b).on (mkX b).kd (mkX b).d (mkX b).vs).length=(krD (mkX b).k (mkX b).a (mkX b).b (mkX b).c (mkX b).on (mkX b).kd (mkX b).d (mkX b).vs).length))&&qz)))))
def a8E (b:List Int) (qz:Bool):Bool:=((!!krB (mkX b).k (mkX b).a (mkX b).b (mkX b).c (mkX b).on (mkX b).kd (mkX b).d (mkX b).vs)&&((!!krB (mkX b).k (mkX b).a (mkX b).b (mkX b).c (mkX b).on (mkX b).kd (mkX b).d (mkX b).vs)&&((!!krB (mkX b).k (mkX b).a (mkX b).b (mkX b).c (mkX b).on (mkX b).kd (mkX b).d (mkX b).vs)&&((decide ((krD (dkR b).k (dkR b).a (dkR b).b (dkR b).c (dkR b).on (dkR b).kd (dkR b).d (dkR b).vs).length≤274877906944))&&((lkI (krD (dkR b).k (dkR b).a (dkR b).b (dkR b).c (dkR b).on (dkR b).kd (dkR b).d (dkR b).vs) (krD (mkX b).k (mkX b).a (mkX b).b (mkX b).c (mkX b).on (mkX b).kd (mkX b).d (mkX b).vs))&&((!!krB (mkX b).k (mkX b).a (mkX b).b (mkX b).c (mkX b).on (mkX b).kd (mkX b).d (mkX b).vs)&&((!bif !krB (mkX b).k (mkX b).a (mkX b).b (mkX b).c (mkX b).on (mkX b).kd (mkX b).d (mkX b).vs then true else false)&&((!bif !krB (mkX b).k (mkX b).a (mkX b).b (mkX b).c (mkX b).on (mkX b).kd (mkX b).d (mkX b).vs then true else false)&&((decide ((mkX b).d.length≤274877906944))&&((!bif !krB (mkX b).k (mkX b).a (mkX b).b (mkX b).c (mkX b).on (mkX b).kd (mkX b).d (mkX b).vs then true else false)&&qz))))))))))
def a8F (b:List Int) (qz:Bool):Bool:=((!bif bif !krB (mkX b).k (mkX b).a (mkX b).b (mkX b).c (mkX b).on (mkX b).kd (mkX b).d (mkX b).vs then true else false then true else !aO (mkX b).k (mkX b).a (mkX b).b (mkX b).c (mkX b).on (mkX b).kd (mkX b).d (mkX b).vs)&&qz)
def a8G (b:List Int) (qz:Bool):Bool:=((!mkO b)&&qz)
def a8H (b:List Int) (qz:Bool):Bool:=((!(dkR b).on)&&((!(dkR b).on)&&((!(dkR b).on)&&((!(dkR b).on)&&((!(dkR b).on)&&((decide (0≤QS b))&&((decide (QS b<(↑(dkR b).c.length:Int)))&&((!(dkR b).on)&&((decide ((QS b).toNat<(dkR b).c.length))&&qz)))))))))
noncomputable abbrev a8J (b:List Int) (p:iM):Option xG:=aG tt (aB a8K) ([]) 100 Tryz.f9 [.c (.view none (.ints .u8 b) b.length 1 none)] [] p
theorem a8O (b:List Int):a8J b [(0,true)]=
  some ⟨.c (.bool true),[],((decide ((↑b.length:Int)>1048576))&&true),[]⟩:=by kernel_rfl
theorem a8P (b:List Int):a8J b [(0,false),(0,false),(0,false),(0,true),(1,true)]=
  some ⟨.c (.bool (bif mkO b==mkO b then true else false)),[],(a8A b (a8B b ((bif bif !mkO b==mkO b then true else false then true else !aO (dkR b).k (dkR b).a (dkR b).b (dkR b).c (dkR b).on (dkR b).kd (dkR b).d (dkR b).vs)&&((bif bif !mkO b==mkO b then true else false then true else !aO (dkR b).k (dkR b).a (dkR b).b (dkR b).c (dkR b).on (dkR b).kd (dkR b).d (dkR b).vs)&&((bif bif !mkO b==mkO b then true else false then true else !aO (dkR b).k (dkR b).a (dkR b).b (dkR b).c (dkR b).on (dkR b).kd (dkR b).d (dkR b).vs)&&((mkO b==mkO b)&&((mkO b==mkO b)&&((mkO b==mkO b)&&(decide ((mkX b).a.length≤274877906944)&&(decide ((mkX b).b.length≤274877906944)&&(decide ((mkX b).c.length≤274877906944)&&(decide ((mkX b).d.length≤274877906944)&&((kpE (mkX b) (mkX b))&&true))))))))))))),[]⟩:=by kernel_rfl
theorem a8Q (b:List Int):a8J b [(0,false),(0,false),(0,false),(0,false),(0,true),(0,true)]=
  some ⟨.c (.bool (bif mkO b==mkO b then true else false)),[],(a8A b (a8B b (a8C b ((bif bif bif !mkO b==mkO b then true else false then true else !aO (dkR b).k (dkR b).a (dkR b).b (dkR b).c (dkR b).on (dkR b).kd (dkR b).d (dkR b).vs then true else decide (QS b≥8))&&((mkO b==mkO b)&&((mkO b==mkO b)&&((mkO b==mkO b)&&(decide ((mkX b).a.length≤274877906944)&&(decide ((mkX b).b.length≤274877906944)&&(decide ((mkX b).c.length≤274877906944)&&(decide ((mkX b).d.length≤274877906944)&&((kpE (mkX b) (mkX b))&&true)))))))))))),[]⟩:=by kernel_rfl
theorem a8R (b:List Int):a8J b [(0,false),(0,false),(0,false),(0,false),(0,false),(0,false),(0,false),(0,false),(0,true),(0,true),(0,true)]=
  some ⟨.c (.bool (bif bif !(dkR b).on then(dkR b).c.getD (QS b).toNat false else false then true else false)),[],(a8A b (a8B b (a8C b (a8D b (a8E b (a8F b (a8G b (a8H b ((bif !(dkR b).on then(dkR b).c.getD (QS b).toNat false else false)&&((bif !(dkR b).on then(dkR b).c.getD (QS b).toNat false else false)&&((bif !(dkR b).on then(dkR b).c.getD (QS b).toNat false else false)&&(decide ((mkX b).a.length≤274877906944)&&(decide ((mkX b).b.length≤274877906944)&&(decide ((mkX b).c.length≤274877906944)&&(decide ((mkX b).d.length≤274877906944)&&((kpE (mkX b) (dkR b))&&true)))))))))))))))),[]⟩:=by kernel_rfl
theorem a8M (b:List Int):a8J b [(0,false),(0,false),(0,false),(0,false),(0,false),(0,false),(0,false),(0,false),(0,false)]=
  some ⟨.c (.bool ((mkX b).c.getD (QS b).toNat false)),[],(a8A b (a8B b (a8C b (a8D b (a8E b (a8F b (!!mkO b&&(decide (0≤QS b)&&(decide (QS b<(↑(mkX b).c.length:Int))&&((decide ((QS b).toNat<(mkX b).c.length))&&true)))))))))),[]⟩:=by kernel_rfl
theorem a89 {n m:Nat} (h:n≤m) (hm:m≤274877906944):decide (n≤274877906944)=true:=decide_eq_true (Nat.le_trans h hm)
theorem a8N (b:List Int) (o1:aZ b=true):bE Tryz.prog 9 [.c (.view none (.ints .u8 b) b.length 1 none)] [] (.c (.bool true)) []:=by
 cases c1:decide ((b.length:Int)>1048576)with
 |true=>exact a5 a8I (by kernel_rfl) (by kernel_rfl) (a8O b) (by rw[c1];rfl) (by simp) (fun cc _=>aF.nil)
 |false=>
  obtain⟨z1,z2⟩:=a5C b
  have h0:=WR b
  have p0:decide (0≤QS b)=true:=decide_eq_true h0
  obtain⟨g1,g2,g3,g4⟩:=Y5 (dkR b) (QS b)
  have a1:=a89 z1 (by decide)
  have a2:=a89 z2 (by decide)
  have b1:decide ((mkX b).a.length≤274877906944)=true:=a89 g1 (by decide)
  have b2:decide ((mkX b).b.length≤274877906944)=true:=a89 g2 (by decide)
  have b3:decide ((mkX b).c.length≤274877906944)=true:=a89 g3 (by decide)
  have b4:decide ((mkX b).d.length≤274877906944)=true:=a89 g4 (by decide)
  cases hok:(dkR b).ok with
  |false=>
   have hok:aO (dkR b).k (dkR b).a (dkR b).b (dkR b).c (dkR b).on (dkR b).kd (dkR b).d (dkR b).vs=false:=hok
   have e:=a8P b
   simp only[beq_self_eq_true,cond_true]at e
   exact a5 a8I (by kernel_rfl) (by kernel_rfl) e (by simp only[a8A,a8B,a8C,a8D,a8E,a8F,a8G,a8H,c1,o1,a1,a2,b1,b2,b3,b4,hok,X4,beq_self_eq_true,decide_true,bS]) (by simp) (fun cc _=>aF.nil)
  |true=>
   have hok':aO (dkR b).k (dkR b).a (dkR b).b (dkR b).c (dkR b).on (dkR b).kd (dkR b).d (dkR b).vs=true:=hok
   cases h8:decide (QS b≥8)with
   |true=>
    have e:=a8Q b
    simp only[beq_self_eq_true,cond_true]at e
    exact a5 a8I (by kernel_rfl) (by kernel_rfl) e (by simp only[a8A,a8B,a8C,a8D,a8E,a8F,a8G,a8H,c1,o1,a1,a2,b1,b2,b3,b4,hok',h8,X4,beq_self_eq_true,decide_true,bS]) (by simp) (fun cc _=>aF.nil)
   |false=>
    have hi:bet (QS b) 0 7=true:=b8.2 (by have:=of_decide_eq_false h8;omega)
    obtain⟨-,la,lb,lc⟩:=gG hok
    obtain⟨f1,f2,f3,f4,f5⟩:=tF hok hi
    have k1:aO (mkX b).k (mkX b).a (mkX b).b (mkX b).c (mkX b).on (mkX b).kd (mkX b).d (mkX b).vs=true:=f1
    have k2:krB (mkX b).k (mkX b).a (mkX b).b (mkX b).c (mkX b).on (mkX b).kd (mkX b).d (mkX b).vs=true:=f2
    have k3:krD (mkX b).k (mkX b).a (mkX b).b (mkX b).c (mkX b).on (mkX b).kd (mkX b).d (mkX b).vs=krD (dkR b).k (dkR b).a (dkR b).b (dkR b).c (dkR b).on (dkR b).kd (dkR b).d (dkR b).vs:=f3
    have kl:decide ((krD (dkR b).k (dkR b).a (dkR b).b (dkR b).c (dkR b).on (dkR b).kd (dkR b).d (dkR b).vs).length≤274877906944)=true:=decide_eq_true (a86 (x:=dkR b) z2)
    have h7:=of_decide_eq_false h8
    cases ho:mkO b with
    |false=>
     obtain⟨m1,m2,m3⟩:=f4 ho
     have m3:mkX b=dkR b:=m3
     have q1:decide (QS b<(((dkR b).c.length:Nat):Int))=true:=decide_eq_true (by omega)
     have q2:decide ((QS b).toNat<(dkR b).c.length)=true:=decide_eq_true (by omega)
     have hk2:=hok'
     rw[m1]at hk2
     have kr2:krB (dkR b).k (dkR b).a (dkR b).b (dkR b).c (dkR b).on (dkR b).kd (dkR b).d (dkR b).vs=true:=JU hok
     rw[m1]at kr2
     have kl2:=kl
     rw[m1]at kl2
     have e:=a8R b
     simp only[m1,m2,Bool.not_false,cond_true]at e
     exact a5 a8I (by kernel_rfl) (by kernel_rfl) e (by simp only[a8A,a8B,a8C,a8D,a8E,a8F,a8G,a8H,m3,c1,o1,a1,a2,hk2,h8,kl2,kr2,m1,m2,p0,q1,q2,ho,X4,JG,beq_self_eq_true,decide_true,bS];omega) (by simp) (fun cc _=>aF.nil)
    |true=>
     have m2:(mkX b).c.getD (QS b).toNat false=true:=f5 ho
     have lx:(mkX b).c.length=8:=(gG f1).2.2.2
     have q1:decide (QS b<(((mkX b).c.length:Nat):Int))=true:=decide_eq_true (by omega)
     have q2:decide ((QS b).toNat<(mkX b).c.length)=true:=decide_eq_true (by omega)
     have e:=a8M b
     rw[m2]at e
     exact a5 a8I (by kernel_rfl) (by kernel_rfl) e (by simp only[a8A,a8B,a8C,a8D,a8E,a8F,a8G,a8H,c1,o1,a1,a2,b1,b2,b3,b4,hok',h8,k1,k2,k3,kl,p0,q1,q2,ho,X4,JG,beq_self_eq_true,decide_true,bS]) (by simp) (fun cc _=>aF.nil)
end Go.Proofs.YthapjdpkelihiaaGreat.Am
