/- DERIVED. Part 17 of the proof: C110, C111, C112, C113, C114, C115, C116, P30, P12, C117. No statement of the program is proved here. -/
import Derived.Test.YtdnfojanjejdgaaGreatX16
import Derived.RangeFuncBox
import Derived.Shelf.Abstract
import Derived.OwnWalkIn
import Derived.TacticsInMore
import Derived.LoopIn
set_option linter.unusedSimpArgs false
set_option linter.unusedVariables false
set_option linter.unusedSectionVars false
set_option linter.defProp false
namespace Go.Proofs.YtdnfojanjejdgaaGreat.Am
section
def chA (s:ByteArray) (i:Nat):Int:=((s.data.getD i 0).toNat:Int)
def ltB (s:ByteArray) (i:Nat):Bool:= !(decide (chA s i<97))&& !(decide (chA s i>122))
def eS (s:ByteArray):Bool:=cL (ltB s) s.size 0&&bet (s.size:Int) 1 14
theorem TV (s:ByteArray) (i:Nat):0≤chA s i∧chA s i<256:=by
 have:=(s.data.getD i 0).toNat_lt
 unfold chA;omega
theorem yU (s:ByteArray) (i:Nat):ltB s i=true↔97≤chA s i∧chA s i≤122:=by
 simp only[ltB,Bool.and_eq_true,rpS,Bool.not_eq_true',decide_eq_false_iff_not];omega
noncomputable abbrev fTO:=Tryz.f96
noncomputable def ITO (s:ByteArray) (i:Int):St:=aS fTO.ntmps [(0,.c (.str s)),(5,.c (.int .i64 (s.size:Int))),(6,.c (.int .i64 i))] []
noncomputable def XTO (s:ByteArray):St:=aS fTO.ntmps [(0,.c (.str s))] []
noncomputable def YTO (s:ByteArray):St:=aS fTO.ntmps [(0,.c (.str s)),(2,.c (.bool false))] []
def zG (s:ByteArray) (i:Int):=bt4 (↑(s.data.getD i.toNat 0).toNat:Int) (aM tt (aH T82) ([]) 0 100 (aC 0 (aB fTO)) (ITO s i)) (↑s.size:Int) (aK 0 (aE fTO 0) (aG fTO 0)) (P:=fun q0 q1 q2 q3=>q3 (q1 [(0,true),(0,true)])=
  some (.ret,(decide (i<q2)&&(decide (0≤i)&&(decide (i<q2)&&(rp4 (decide (q0<97)) ((decide (q0<97))&&true))))),[],YTO s)∧q3 (q1 [(0,true),(0,false),(0,true)])=
  some (.ret,(decide (i<q2)&&(decide (0≤i)&&(decide (i<q2)&&(rp3 (!decide (q0<97)) (decide (0≤i)&&(decide (i<q2)&&(!decide (q0<97)&&((bif decide (q0<97)then true else decide (q0>122))&&true)))))))),[],YTO s)∧q3 (q1 [(0,true),(0,false),(0,false)])=
  some (.normal,(decide (i<q2)&&(decide (0≤i)&&(decide (i<q2)&&(rp3 (!decide (q0<97)) (decide (0≤i)&&(decide (i<q2)&&(!decide (q0<97)&&((!bif decide (q0<97)then true else decide (q0>122))&&true)))))))),[],ITO s (IntKind.i64.wrap (i+1)))∧q3 (q1 [(0,false)])=
  some (.exit 0,((!decide (i<q2))&&true),[],XTO s)) ⟨by kernel_rfl,by kernel_rfl,by kernel_rfl,by kernel_rfl⟩
def a4F (s:ByteArray) (i:Int):=(zG s i).1
def a4G (s:ByteArray) (i:Int):=(zG s i).2.1
def a4H (s:ByteArray) (i:Int):=(zG s i).2.2.1
def a4I (s:ByteArray) (i:Int):=(zG s i).2.2.2
noncomputable abbrev fTP:=Tryz.f94
noncomputable def ITP (s:ByteArray) (i:Int):St:=aS fTP.ntmps [(0,.c (.str s)),(3,.c (.int .i64 i))] []
noncomputable def XTP (s:ByteArray):St:=aS fTP.ntmps [(0,.c (.str s))] []
noncomputable def YTP (s:ByteArray):St:=aS fTP.ntmps [(0,.c (.str s)),(2,.c (.bool false))] []
def EX (s:ByteArray) (i:Int):=bt4 (aM tt (aH T82) ([]) 0 100 (aC 0 (aB fTP)) (ITP s i)) (aK 0 (aE fTP 0) (aG fTP 0)) (↑s.size:Int) (IntKind.i64.wrap (↑(s.data.getD i.toNat 0).toNat:Int)) (P:=fun q0 q1 q2 q3=>q1 (q0 [(0,true),(0,true)])=
  some (.ret,(decide (i<q2)&&(decide (0≤i)&&(decide (i<q2)&&((!bet q3 97 122)&&true)))),[],YTP s)∧q1 (q0 [(0,true),(0,false)])=
  some (.normal,(decide (i<q2)&&(decide (0≤i)&&(decide (i<q2)&&((!!bet q3 97 122)&&true)))),[],ITP s (IntKind.i64.wrap (i+1)))∧q1 (q0 [(0,false)])=
  some (.exit 0,((!decide (i<q2))&&true),[],XTP s)) ⟨by kernel_rfl,by kernel_rfl,by kernel_rfl⟩
def a4J (s:ByteArray) (i:Int):=(EX s i).1
def a4K (s:ByteArray) (i:Int):=(EX s i).2.1
def a4L (s:ByteArray) (i:Int):=(EX s i).2.2
theorem a7Y (s:ByteArray):aJ tt (aH T82) ([(0,⟨aE fTO 0,ITO s 0,.normal,XTO s⟩)]) 100 fTO [.c (.str s)] [] []=
  some ⟨.c (.bool (bet (↑s.size:Int) 1 14)),[],true,[ITO s 0=ITO s 0]⟩:=by kernel_rfl
theorem a8D (s:ByteArray):aJ tt (aH T82) ([(0,⟨aE fTO 0,ITO s 0,.ret,YTO s⟩)]) 100 fTO [.c (.str s)] [] []=
  some ⟨.c (.bool false),[],true,[ITO s 0=ITO s 0]⟩:=by kernel_rfl
theorem a7Z (s:ByteArray):aJ tt (aH T82) ([(0,⟨aE fTP 0,ITP s 0,.normal,XTP s⟩)]) 100 fTP [.c (.str s)] [] []=
  some ⟨.c (.bool (bet (↑s.size:Int) 1 14)),[],true,[ITP s 0=ITP s 0]⟩:=by kernel_rfl
theorem a8E (s:ByteArray):aJ tt (aH T82) ([(0,⟨aE fTP 0,ITP s 0,.ret,YTP s⟩)]) 100 fTP [.c (.str s)] [] []=
  some ⟨.c (.bool false),[],true,[ITP s 0=ITP s 0]⟩:=by kernel_rfl
theorem lTO (s:ByteArray) (hn:(s.size:Int)≤9223372036854775807):aP none Tryz.prog 0 (.block 0 (.loop (aC 0 (aB fTO)))) (ITO s 0) fun e t=>e=(bif cL (ltB s) s.size 0 then .normal else .ret)∧t=bif cL (ltB s) s.size 0 then XTO s else YTO s:=by
 refine aP.all (ro:=none) hT t82 bE s.size (ltB s) (fun i=>ITO s i) (XTO s) (YTO s) .ret (.inr rfl) (aE fTO 0) (aG fTO 0) (fun _=>[]) (fun _ _=>aL.nil) (fun i hi h=> ?_) (fun i hi h=> ?_) ⟨_,_,⟨_,_,a4I s s.size,by simp,by simp⟩⟩
 ·have h1:=(yU s i).1 h
  unfold chA at h1
  have e:=a4H s i
  rw[aF (by omega) (by omega),Int.toNat_natCast]at e
  refine⟨_,_,⟨_,_,e, ?_,by simp⟩⟩
  have h2:decide (((s.data.getD i 0).toNat:Int)<97)=false:=decide_eq_false (by omega)
  have h3:decide (((s.data.getD i 0).toNat:Int)>122)=false:=decide_eq_false (by omega)
  simp only[h2,h3,decide_true,rpS,bS];omega
 ·cases h2:decide (chA s i<97)with
  |true=>
   have e:=a4F s i
   rw[Int.toNat_natCast]at e
   unfold chA at h2
   exact⟨_,_,⟨_,_,e,by simp only[h2,decide_true,rpS,bS];omega,by simp⟩⟩
  |false=>
   have h3:decide (chA s i>122)=true:=by
    simp only[ltB,h2,Bool.not_false,Bool.true_and,rpS,Bool.not_eq_false']at h;exact h
   have e:=a4G s i
   rw[Int.toNat_natCast]at e
   unfold chA at h2 h3
   exact⟨_,_,⟨_,_,e,by simp only[h2,h3,decide_true,rpS,bS];omega,by simp⟩⟩
theorem lTP (s:ByteArray) (hn:(s.size:Int)≤9223372036854775807):aP none Tryz.prog 0 (.block 0 (.loop (aC 0 (aB fTP)))) (ITP s 0) fun e t=>e=(bif cL (ltB s) s.size 0 then .normal else .ret)∧t=bif cL (ltB s) s.size 0 then XTP s else YTP s:=by
 have hb: ∀i:Nat,bet (IntKind.i64.wrap ((s.data.getD i 0).toNat:Int)) 97 122=ltB s i:=fun i=>by
  obtain⟨h1,h2⟩:=TV s i
  rw[Bool.eq_iff_iff,yU]
  unfold chA at h1 h2⊢
  rw[aF (by omega) (by omega),bQ]
 refine aP.all (ro:=none) hT t82 bE s.size (ltB s) (fun i=>ITP s i) (XTP s) (YTP s) .ret (.inr rfl) (aE fTP 0) (aG fTP 0) (fun _=>[]) (fun _ _=>aL.nil) (fun i hi h=> ?_) (fun i hi h=> ?_) ⟨_,_,⟨_,_,a4L s s.size,by simp,by simp⟩⟩
 ·have e:=a4K s i
  rw[aF (i:=(i:Int)+1) (by omega) (by omega),Int.toNat_natCast,hb]at e
  exact⟨_,_,⟨_,_,e,by simp only[h,decide_true,rpS,bS];omega,by simp⟩⟩
 ·have e:=a4J s i
  rw[Int.toNat_natCast,hb]at e
  exact⟨_,_,⟨_,_,e,by simp only[h,decide_true,rpS,bS];omega,by simp⟩⟩
def w6:aO:=fun args h=>
 match args,h with
 |[.c (.str s)],[]=>
  some (.c (.bool (eS s)),[],[decide ((s.size:Int)≤9223372036854775807)])
 |_,_=>none
theorem mTO:aR Tryz.prog 96 w6:=by
 intro args h res h' o he ho
 unfold w6 at he
 split at he
 case h_2=>cases he
 rename_i s
 simp only[Option.some.injEq,Prod.mk.injEq]at he
 obtain⟨rfl,rfl,rfl⟩:=he
 simp only[List.mem_cons,List.not_mem_nil,or_false,forall_eq_or_imp,forall_eq,decide_eq_true_eq]at ho
 have o1:=ho
 have g:=lTO s o1
 unfold eS
 cases h:cL (ltB s) s.size 0 with
 |true=>rw[h]at g;exact bW t82 (a7Y s) (by kernel_rfl) (by kernel_rfl) (by kernel_rfl) g (by simp) rfl
 |false=>rw[h]at g;exact bW t82 (a8D s) (by kernel_rfl) (by kernel_rfl) (by kernel_rfl) g (by simp) rfl
theorem mTP:aR Tryz.prog 94 w6:=by
 intro args h res h' o he ho
 unfold w6 at he
 split at he
 case h_2=>cases he
 rename_i s
 simp only[Option.some.injEq,Prod.mk.injEq]at he
 obtain⟨rfl,rfl,rfl⟩:=he
 simp only[List.mem_cons,List.not_mem_nil,or_false,forall_eq_or_imp,forall_eq,decide_eq_true_eq]at ho
 have o1:=ho
 have g:=lTP s o1
 unfold eS
 cases h:cL (ltB s) s.size 0 with
 |true=>rw[h]at g;exact bW t82 (a7Z s) (by kernel_rfl) (by kernel_rfl) (by kernel_rfl) g (by simp) rfl
 |false=>rw[h]at g;exact bW t82 (a8E s) (by kernel_rfl) (by kernel_rfl) (by kernel_rfl) g (by simp) rfl
noncomputable def ZN:List aZ:=[⟨96,[],w6⟩,⟨94,[],w6⟩,⟨196,[],dW tt (aH T82) Tryz.f196 []⟩,⟨62,[],dW tt (aH T82) Tryz.f62 []⟩]++T82
theorem a8N:aA Tryz.prog ZN:=by
 refine aA.append ?_ e82
 intro e he
 simp only[List.mem_cons,List.not_mem_nil,or_false]at he
 rcases he with rfl|rfl|rfl|rfl
 ·exact mTO
 ·exact mTP
 ·exact cJ hT t82 bE [] (by kernel_rfl) (by kernel_rfl)
 ·exact cJ hT t82 bE [] (by kernel_rfl) (by kernel_rfl)
end
section
open Go.RowKit Go.Shelf
attribute [local go_sem] Oper.semAt_some
def ckV (b off len k:Nat):Value:=.slice (some ⟨b,off+4*k,none⟩) (min 4 (len-4*k)) (min 4 (len-4*k))
def Kp2 (s n:Nat) (W W':World):Prop:=W'.cell? ⟨s,0,none⟩=W.cell? ⟨s,0,none⟩∧W'.cell? ⟨n,0,none⟩=W.cell? ⟨n,0,none⟩
theorem Kp2.trans {s n:Nat} {A B C:World} (h:Kp2 s n A B) (k:Kp2 s n B C):Kp2 s n A C:=⟨k.1.trans h.1,k.2.trans h.2⟩
theorem EZ (k:Nat):List.range (k+1)=List.range k++[k]:=List.range_succ
set_option maxRecDepth 100000 in
set_option maxHeartbeats 4000000 in
theorem LO (F:Fence) (n:Nat) (hf:F.fn 198) (hro:F.round=none) (hn:1≤n) (l Bs Bn b off len cap:Nat) (hcap:len≤cap) (hlen:len≤1024) (J Jx:List Nat→World→Prop) {BB:Nat} (hJ:AbidesFrom BB J)
  (hY: ∀pre x W,J pre W→pre.length<(len+3)/4→YieldAt F (n-1) Tryz.prog l #[ckV b off len x] W fun e W'=>
   (e=.returned (.bool true)∧J (pre++[x]) W'∧Kp2 Bs Bn W W')∨(e=.returned (.bool false)∧Jx (pre++[x]) W'))
  (W:World) (hBs:W.cell? ⟨Bs,0,none⟩=some (.slice (some ⟨b,off,none⟩) len cap)) (hBn:W.cell? ⟨Bn,0,none⟩=some (.int .i64 4)) (h0:J [] W):
  CallsIn F n Tryz.prog 198 #[.func (.yield l) #[] #[],.pointer (some ⟨Bs,0,none⟩),.pointer (some ⟨Bn,0,none⟩)] W fun e W'=>(∃v,e=.returned v)∧
   ((∃ys,ys=List.range ((len+3)/4)∧J ys W')∨(∃pre,True∧Jx pre W')):=by
 refine callsIn_of_wp Tryz.func198 rfl hf ?_ hro
 simp only[Tryz.ntmps198,List.size_toArray,List.length_cons,List.length_nil,Nat.reduceAdd,Nat.reduceSub,Array.replicate_succ,Array.replicate_zero,List.push_toArray,List.append_toArray,List.nil_append,List.cons_append]
 gi_wp2
 gi_loopw [4] (fun i wr=> ∃k:Nat,4*k<len+4∧i=.int .i64 ((4*k:Nat):Int)∧J (List.range k) wr∧Kp2 Bs Bn W wr)
  (fun i _=>len-(intOf i).toNat)
 case atStart=>exact⟨0,by omega,rfl,h0,rfl,rfl⟩
 case round=>
  obtain⟨k,hk,rfl,hJs,hk1,hk2⟩:=hrel
  have hBs':=hk1.trans hBs
  have hBn':=hk2.trans hBn
  by_cases hlt:4*k<len
  ·obtain⟨fn,tmps,assign,body,hy,hR⟩:=hY _ k wr.drew (hJ _ _ _ none hJs ⟨rfl,rfl,rfl,Nat.le_refl _,fun _ _ _=>rfl⟩ (fun r e=>by cases e)) (by rw[List.length_range];omega)
   rw[←EZ]at hR
   have hlt':4*(k:Int)<len:=by omega
   rcases Nat.lt_or_ge (len-4*k) 4 with h4|h4
   ·have e1:ckV b off len k=.slice (some ⟨b,off+4*k,none⟩) (len-4*k) (len-4*k):=by
     unfold ckV;rw[Nat.min_eq_right (by omega)]
    rw[e1]at hy
    gi_wp2
    gi_region
    all_goals gi_wp2
    all_goals (try go_bits)
    all_goals (try omega)
    all_goals (
     refine hR.mono ?_
     rintro e W3 (⟨rfl,hJ3,hk3⟩|⟨rfl,hJx3⟩)
     ·have hBs3:=hk3.1.trans hBs'
      have hBn3:=hk3.2.trans hBn'
      gi_wp2
      go_roundw
      case rel=>exact⟨k+1,by omega,by simp;omega,hJ3,(Kp2.trans ⟨hk1,hk2⟩ hk3).1,(Kp2.trans ⟨hk1,hk2⟩ hk3).2⟩
      case measure=>simp[intOf];omega
     ·gi_wp2
      refine bodyPost_ret (results_none rfl _ _ _) rfl ?_
      exact⟨⟨_,rfl⟩,.inr ⟨_,trivial,hJx3⟩⟩)
   ·have e1:ckV b off len k=.slice (some ⟨b,off+4*k,none⟩) 4 4:=by
     unfold ckV;rw[Nat.min_eq_left (by omega)]
    rw[e1]at hy
    gi_wp2
    gi_region
    all_goals gi_wp2
    all_goals (try go_bits)
    all_goals (try omega)
    all_goals (
     refine hR.mono ?_
     rintro e W3 (⟨rfl,hJ3,hk3⟩|⟨rfl,hJx3⟩)
     ·have hBs3:=hk3.1.trans hBs'
      have hBn3:=hk3.2.trans hBn'
      gi_wp2
      go_roundw
      case rel=>exact⟨k+1,by omega,by simp;omega,hJ3,(Kp2.trans ⟨hk1,hk2⟩ hk3).1,(Kp2.trans ⟨hk1,hk2⟩ hk3).2⟩
      case measure=>simp[intOf];omega
     ·gi_wp2
      refine bodyPost_ret (results_none rfl _ _ _) rfl ?_
      exact⟨⟨_,rfl⟩,.inr ⟨_,trivial,hJx3⟩⟩)
  ·have hlt': ¬4*(k:Int)<len:=by omega
   obtain rfl:k=(len+3)/4:=by omega
   gi_wp2
   go_end0
   exact⟨⟨_,rfl⟩,.inl hJs⟩
end
section
open Go.RowKit
noncomputable abbrev fTC:=Tryz.f97
noncomputable abbrev jS:Func:= {fTC with body:=some (.block 0 (.loop ((gT (aB fTC)).getD .skip)))}
noncomputable def yD:List aZ:=[⟨144,[],dW tt (aH T82) Tryz.f144 [(0,false)]⟩,⟨145,[0],dW tt (aH T82) Tryz.f145 []⟩]++ZN
theorem ZY:aA Tryz.prog yD:=by
 refine aA.append ?_ a8N
 intro e he
 simp only[List.mem_cons,List.not_mem_nil,or_false]at he
 rcases he with rfl|rfl
 ·exact cJ hT t82 bE [(0,false)] (by kernel_rfl) (by kernel_rfl)
 ·exact cJ hT t82 bE [] (by kernel_rfl) (by kernel_rfl)
theorem JF:bL Tryz.prog (aH yD):=aQ ZY
noncomputable def STC (rs:List (List Int)) (n:Nat) (ck:List Int):St:=aS fTC.ntmps [(3,.c (.ptr 0 0 0 0)),(4,.c (.view none (.ints .u8 ck) ck.length 1 none))] [.live (.cells [.sl 1 0 n 1 none]),.live (.ivs .i64 rs)]
noncomputable def ITC (rs:List (List Int)) (n:Nat) (ck v:List Int) (i:Int):St:=aS fTC.ntmps [(3,.c (.ptr 0 0 0 0)),(4,.c (.view none (.ints .u8 ck) ck.length 1 none)),(5,.c (.sl 2 0 4 1 none)),(17,.c (.view none (.ints .u8 ck) ck.length 1 none)),(18,.c (.int .i64 (ck.length:Int))),(19,.c (.int .i64 i))] [.live (.cells [.sl 1 0 n 1 none]),.live (.ivs .i64 rs),.live (.ints .i64 v)]
noncomputable def XTC (rs:List (List Int)) (n:Nat) (ck v:List Int):St:=aS fTC.ntmps [(3,.c (.ptr 0 0 0 0)),(4,.c (.view none (.ints .u8 ck) ck.length 1 none)),(5,.c (.sl 2 0 4 1 none))] [.live (.cells [.sl 1 0 n 1 none]),.live (.ivs .i64 rs),.live (.ints .i64 v)]
noncomputable def RTC (rs:List (List Int)) (n:Nat) (ck:List Int):St:=aS fTC.ntmps [(3,.c (.ptr 0 0 0 0)),(4,.c (.view none (.ints .u8 ck) ck.length 1 none))] [.live (.cells [.sl 2 0 n 1 none]),.dead,.live (.ivs .i64 rs)]
noncomputable def QTC (rs:List (List Int)) (n:Nat):St:=aS fTC.ntmps [(3,.c (.ptr 0 0 0 0))] [.live (.cells [.sl 1 0 n 1 none]),.live (.ivs .i64 rs)]
noncomputable def PTC (zs:List Int) (n:Nat):St:=aS fTC.ntmps [(3,.c (.ptr 0 0 0 0)),(14,.c (.fn 198 [.ptr 1 0 0 0,.ptr 2 0 0 0]))] [.live (.cells [.sl 3 0 0 1 none]),.live (.cells [.view none (.ints .u8 zs) n 1 none]),.live (.ints .i64 [4]),.live (.ivs .i64 [])]
theorem a49 (rs:List (List Int)) (n:Nat) (ck v:List Int) (i:Int):aK 2 (aE jS 2) (aG jS 2) (aM tt (aH T82) ([]) 2 100 (aC 2 (aB jS)) (ITC rs n ck v i) [(0,true)])=
  some (.normal,(decide (i<(↑ck.length:Int))&&(decide (0≤i)&&(decide (i<(↑ck.length:Int))&&(decide (i.toNat<ck.length)&&(decide (0≤i)&&(decide (i<4)&&((decide (i.toNat<v.length))&&true))))))),[],ITC rs n ck (v.set i.toNat (IntKind.i64.wrap (IntKind.i64.wrap (IntKind.u8.wrap (ck.getD i.toNat 0-97))+1))) (IntKind.i64.wrap (i+1))):=by kernel_rfl
theorem a4A (rs:List (List Int)) (n:Nat) (ck v:List Int) (i:Int):aK 2 (aE jS 2) (aG jS 2) (aM tt (aH T82) ([]) 2 100 (aC 2 (aB jS)) (ITC rs n ck v i) [(0,false)])=
  some (.exit 2,((!decide (i<(↑ck.length:Int)))&&true),[],XTC rs n ck v):=by kernel_rfl
theorem a22 (rs:List (List Int)) (n:Nat) (ck v:List Int):aK 2 (aE jS 0) (aG jS 0) (aM tt (aH T82) ([(2,⟨aE jS 2,ITC rs n ck [0,0,0,0] 0,.normal,XTC rs n ck v⟩)]) 2 100 (aC 0 (aB jS)) (STC rs n ck) [])=
  some (.normal,(decide (4=v.length)&&(decide (n=rs.length)&&((decide (n+1≤274877906944))&&true))),[ITC rs n ck [0,0,0,0] 0=ITC rs n ck [0,0,0,0] 0],RTC (rs++[v]) (n+1) ck):=by kernel_rfl
theorem a7M (s:ByteArray) (rs:List (List Int)) (n:Nat) (lcv:List (Nat×LC)):aJ tt (aH yD) (lcv) 100 fTC [.c (.str s)] [] [(0,true)]=
  some ⟨.c .nils,[],(decide ((↑s.size:Int)≤9223372036854775807)&&((!eS s)&&true)),[]⟩:=by kernel_rfl
theorem a7N (s:ByteArray) (rs:List (List Int)) (n:Nat):aJ tt (aH yD) ([(0,⟨[3,14],PTC (c6 s) s.size,.normal,QTC rs n⟩)]) 100 fTC [.c (.str s)] [] [(0,false)]=
  some ⟨.c (.sl 0 0 (↑n:Int).toNat 1 none),[.live (.ivs .i64 rs)],(decide ((↑s.size:Int)≤9223372036854775807)&&(!!eS s&&((rp2 (decide ((↑n:Int)≤(↑n:Int))) true)&&true))),[PTC (c6 s) s.size=PTC (c6 s) s.size]⟩:=by kernel_rfl
def pB (n:Int):Int:=IntKind.i64.wrap (IntKind.i64.wrap (IntKind.u8.wrap (n-97))+1)
def MZ (ck:List Int) (i:Nat) (v:List Int):List Int:=v.set i (pB (ck.getD i 0))
def gZ (ck:List Int):List Int:=bI (MZ ck) ck.length 0 [0,0,0,0]
def ckL (zs:List Int) (k:Nat):List Int:=(zs.drop (4*k)).take 4
def dF (zs:List Int):List (List Int):=(List.range ((zs.length+3)/4)).map fun k=>gZ (ckL zs k)
theorem iS (ck:List Int):(gZ ck).length=4:=aY (step:=MZ ck) (fun _ v=>v.length=4) _ _ rfl fun k b _ h=>by unfold MZ;rw[List.length_set];exact h
theorem lTC {ro:Option Nat} (rs:List (List Int)) (n:Nat) (ck:List Int) (hc:ck.length≤4):aP ro Tryz.prog 2 (.block 2 (.loop (aC 2 (aB jS)))) (ITC rs n ck [0,0,0,0] 0) fun e t=>e=.normal∧t=XTC rs n ck (gZ ck):=by
 refine aP.count (ro:=ro) hT t82 bE (m:=2) (id:=2) (body:=aC 2 (aB jS)) ck.length (fun _ v=>v.length=4) (fun i v=>ITC rs n ck v i) (fun v=>XTC rs n ck v) (MZ ck) (aE jS 2) (aG jS 2) (fun _ _=>[]) (fun _ _ _ _=>aL.nil) (fun i v hi hv=>⟨by unfold MZ;rw[List.length_set];exact hv, ?_⟩) (fun v _=>⟨_,_,⟨_,_,a4A rs n ck v ck.length,by simp,by simp⟩⟩) [0,0,0,0] rfl
 have e:=a49 rs n ck v i
 rw[aF (i:=(i:Int)+1) (by omega) (by omega),Int.toNat_natCast]at e
 refine⟨_,_,⟨_,_,e, ?_,by simp⟩⟩
 simp only[hv,decide_true,rpS,bS]
 omega
theorem bTC {ro:Option Nat} (rs:List (List Int)) (ck:List Int) (hc:ck.length≤4) (hr:rs.length≤1024):aP ro Tryz.prog 2 ((gT (aB fTC)).getD .skip) (STC rs rs.length ck) fun e t=>e=.normal∧t=RTC (rs++[gZ ck]) (rs.length+1) ck:=by
 have hl:aL ro Tryz.prog 2 [(2,(⟨aE jS 2,ITC rs rs.length ck [0,0,0,0] 0,.normal,XTC rs rs.length ck (gZ ck)⟩:LC))] (aC 0 (aB jS)):=
  aL.blk (b:=.loop (aC 2 (aB jS))) (by kernel_rfl) (lTC rs rs.length ck hc) aL.nil
 have e:aC 0 (aB jS)=(gT (aB fTC)).getD .skip:=by kernel_rfl
 rw[←e]
 exact P2 hT t82 bE (a22 rs rs.length ck (gZ ck)) (by simp only[iS,decide_true,rpS,bS];omega) (by simp) hl
end
section
open Go.RowKit
theorem rN (zs:List Int) (k:Nat):(ckL zs k).length=min 4 (zs.length-4*k):=by unfold ckL;simp
theorem G8 (zs:List Int) (k q:Nat) (hq:q<(ckL zs k).length):(ckL zs k).getD q 0=zs.getD (4*k+q) 0:=by
 have h:q<4:=by rw[rN]at hq;omega
 unfold ckL
 rw[List.getD_eq_getElem?_getD,List.getD_eq_getElem?_getD,List.getElem?_take,if_pos h,List.getElem?_drop]
def qT (zs:List Int) (pre:List Nat):List (List Int):=pre.map fun k=>gZ (ckL zs k)
abbrev gCK:Nat:=198
theorem ZS:oM 0 (aB fTC)=[.rangeFunc (.tmp 14) #[15] ((nV (aB fTC)).getD .skip) ((gT (aB fTC)).getD .skip)]:=by kernel_rfl
theorem ZR:TQ ((nV (aB fTC)).getD .skip) 4 15=true:=by kernel_rfl
def H3 (a:Act) (v:Value):Act:= {tmps:=(#[15].zip #[v]).foldl (fun t (p,v)=>t.setIfInBounds p v) a.tmps,defers:=[]}
def E0 (a:Act) (v:Value):Act:=(H3 a v).put (some 4) ((H3 a v).eval (.tmp 15))
theorem H4 (a:Act) (v:Value) (h:a.tmps.size=38):(E0 a v).tmps.size=38∧(E0 a v).tmps.getD 3 undef=a.tmps.getD 3 undef∧(E0 a v).tmps.getD 4 undef=v∧(E0 a v).defers=[]:=by
 have e:(H3 a v).tmps=a.tmps.setIfInBounds 15 v:=by simp[H3]
 have e2:(H3 a v).eval (.tmp 15)=v:=by
  show(H3 a v).tmps.getD 15 undef=v
  rw[e];simp[Array.getD,h]
 unfold E0
 rw[e2]
 refine⟨by simp[Act.put,e,h], ?_, ?_,rfl⟩
 ·simp[Act.put,e,Array.getD,h]
 ·simp[Act.put,e,Array.getD,h]
set_option maxRecDepth 100000 in
theorem gTC (zs:List Int) (h1:1≤zs.length) (h2:zs.length≤1024):
  aP none Tryz.prog 0 (.block 0 (.rangeFunc (.tmp 14) #[15] ((nV (aB fTC)).getD .skip) ((gT (aB fTC)).getD .skip))) (PTC zs zs.length) fun e t=>e=.normal∧t=QTC (dF zs) (dF zs).length:=by
 intro X w0 ρ0 ρ a w h0 r n
 refine wpIn_block ?_
 refine X6 (n:=9) ?_
 have h0': ∀k,ρ0 k=.unborn:=fun k=>h0 k (Nat.zero_le k)
 have hl:(PTC zs zs.length).tmps.length=38:=rfl
 have hsz:a.tmps.size=38:=r.size.trans hl
 have t14:AVR X w ρ (.c (.fn gCK [.ptr 1 0 0 0,.ptr 2 0 0 0])) (a.tmps.getD 14 undef):=r.tmps 14 (by rw[hl];decide)
 obtain⟨b1,e1,R1⟩:=C1 (c:=.cells [.view none (.ints .u8 zs) zs.length 1 none]) (r.mem.slot 1) (by show 0<1;decide)
 obtain⟨b2,e2,R2⟩:=C1 (c:=.ints .i64 [4]) (r.mem.slot 2) (by decide)
 obtain⟨v1,c1,q1⟩:=BV (q:=0) R1 (by show 0<1;decide)
 obtain⟨v2,c2,q2⟩:=BV (q:=0) R2 (by decide)
 have q1:CR X w ρ (.view none (.ints .u8 zs) zs.length 1 none) v1:=q1
 have q2:CR X w ρ (.int .i64 4) v2:=q2
 obtain rfl:v2=.int .i64 4:=by cases q2;rfl
 obtain⟨b,base,k,u,hL,hu,hk,rfl⟩: ∃(b base k:Nat) (u:Nat→Value),(¬(b9 ρ b∨X b))∧(∀q,q<zs.length→w.cell? ⟨b,base+q,none⟩=some (u q)∧u q=.int .u8 (zs.getD q 0))∧zs.length≤k∧v1=.slice (some ⟨b,base,none⟩) zs.length k:=by
  obtain⟨m,hm⟩: ∃m,zs.length=m:=⟨_,rfl⟩
  rw[hm]at q1
  cases q1 with
  |view _ _ _ _ _ b base k u hl hc hu hz hk hcap hnl=>exact⟨b,base,k,u,hl h1,fun q hq=>⟨hc q hq,by have:=hu q hq;generalize u q=v at this;cases this;rfl⟩,by omega,by rw[hm]⟩
  |viewNone _ _ _ _ a k hz hcap hnl hk=>omega
 obtain⟨vs,hv,hvs⟩: ∃vs:Array Value,a.tmps.getD 14 undef=.func (.func gCK) #[] vs∧vs= #[.pointer (some ⟨b1,0,none⟩),.pointer (some ⟨b2,0,none⟩)]:=by
  generalize a.tmps.getD 14 undef=v14 at t14
  cases t14 with
  |c _ _ h=>cases h with
   |fn _ _ vs hs hh=>
    refine⟨vs,rfl, ?_⟩
    have g0:=GH (hh 0 (by decide)) e1
    have g1:=GH (hh 1 (by decide)) e2
    obtain⟨l⟩:=vs
    match l,hs with
    |[x,y],_=>simp at g0 g1;rw[g0,g1]
 subst hvs
 have lt1:b1<w.heap.size:=cell?_lt c1
 have lt2:b2<w.heap.size:=cell?_lt c2
 have ltb:b<w.heap.size:=cell?_lt (hu 0 h1).1
 have r1:=r.remap0 h0' (live:=[3]) (order:=[0,3]) (by decide)
 obtain⟨ρ1,hρ1⟩: ∃ρ1,cE (PTC zs zs.length).heap [0,3] ρ=ρ1:=⟨_,rfl⟩
 rw[hρ1,(by kernel_rfl:Am.remap [3] [0,3] (PTC zs zs.length)=QTC [] 0)]at r1
 have hsub: ∀x,b9 ρ1 x→b9 ρ x:=fun x hx=>dE _ _ _ x (by rw[hρ1];exact hx)
 have hrow: ∀x,b9 ρ1 x→ρ 0=.row x∨ρ 3=.row x:=fun x ⟨j,hj⟩=>by
  rw[←hρ1]at hj
  obtain⟨id,h3,h4⟩:=fO hj
  match j,h3 with
  |0,h3=>cases h3;exact .inl h4
  |1,h3=>cases h3;exact .inr h4
 have n1: ¬b9 ρ1 b1:=fun h=>by
  rcases hrow b1 h with h|h
  ·have:=r.mem.inj 0 1 b1 h e1;omega
  ·have:=r.mem.inj 3 1 b1 h e1;omega
 have n2: ¬b9 ρ1 b2:=fun h=>by
  rcases hrow b2 h with h|h
  ·have:=r.mem.inj 0 2 b2 h e2;omega
  ·have:=r.mem.inj 3 2 b2 h e2;omega
 have nb: ¬b9 ρ1 b:=fun h=>hL (.inl (hsub b h))
 have hw0:=r.mem.size
 refine wpIn_rangeFunc_ownG (F:=FW none) rfl (by omega) (gf:=gCK) (lb:= #[.pointer (some ⟨b1,0,none⟩),.pointer (some ⟨b2,0,none⟩)]) hv trivial (enters_of Tryz.func198 (by kernel_rfl) rfl)
  (α:=Nat) (encs:=fun i=> #[ckV b base zs.length i]) (Kp:=Kp2 b1 b2) (S:=fun ys=>ys=List.range ((zs.length+3)/4)) (Sp:=fun _=>True) (N:=(zs.length+3)/4) (w0:=w)
  (fun l J Jx W hW hJ hJx hY h0J=>LO (FW none) 8 trivial rfl (by omega) l b1 b2 b base zs.length k hk h2 J Jx hJ hY W ((hW.cell (p:=⟨b1,0,none⟩) lt1).trans c1) ((hW.cell (p:=⟨b2,0,none⟩) lt2).trans c2) h0J)
  Kp2.trans (fun W l o o' hl _ _ _=>⟨World.cell?_of_block (World.putObj_heap_other (show b1≠l by omega)),World.cell?_of_block (World.putObj_heap_other (show b2≠l by omega))⟩) (Below.refl _ _) (fun _=>rfl)
  (fun pre W=> ∃ρ',Rel X w0 ρ0 (QTC (qT zs pre) (qT zs pre).length) ρ' {tmps:=a.tmps,defers:=[]} W∧cY w (b9 ρ1) W (b9 ρ')) (fun _ _ _=>False)
  ?hI (fun _ _ _ _ _ hs _ _=>hs) ⟨ρ1,⟨r1.size,r1.tmps,r1.mem,hG.nil _ _,r1.mono,r1.ids⟩,cY.refl _ _⟩ (fun i=>E0 a (ckV b base zs.length i)) (fun l i W K hK=>NI ZR hK) ?body ?done (fun D c pre W _ _ h _=>h.elim)
 case hI=>
  rintro pre W W' row ⟨ρ',R,M⟩ hg hr
  have hr': ∀x,row=some x→w0.heap.size≤x:=fun x hx=>by have:=(hr x hx).1;omega
  obtain⟨m',hc,hs⟩:=R.mem.grown hg fun x hx=>⟨hr' x hx,(hr x hx).2⟩
  exact⟨ρ',⟨R.size,fun t ht=>AVR.keepC hc hs (R.tmps t ht),m',hG.nil _ _,R.mono.grown hg hr',R.ids⟩,M.grown hg fun x hx=>(hr x hx).1⟩
 case body=>
  rintro l pre i W ⟨ρ',R,M⟩ hlen
  obtain⟨rs,hrs⟩: ∃rs,qT zs pre=rs:=⟨_,rfl⟩
  have hrl:rs.length≤1024:=by rw[←hrs];unfold qT;rw[List.length_map];omega
  rw[hrs]at R
  obtain⟨a1,a2,a3,a4⟩:=H4 a (ckV b base zs.length i) hsz
  have hWs:=M.size
  have nl: ∀x,x<w.heap.size→ ¬b9 ρ1 x→ ¬b9 ρ' x:=fun x hx hn h=>by
   rcases M.fresh x h with h|h
   ·exact hn h
   ·omega
  have hcl:=rN zs i
  have hview:AVR X W ρ' (.c (.view none (.ints .u8 (ckL zs i)) (ckL zs i).length 1 none)) (ckV b base zs.length i):=by
   refine .c _ _ ?_
   unfold ckV
   rw[←hcl]
   refine .view none _ _ 1 none b (base+4*i) _ (fun q=> .int .u8 ((ckL zs i).getD q 0)) (fun _ h=> ?_) (fun q hq=> ?_) (fun q hq=> .int _ _) (by simp[Con.size]) (Nat.le_refl _) (fun _ h=>by cases h) (fun _ h=>by cases h)
   ·rcases h with h|h
    ·exact nl b ltb nb h
    ·exact hL (.inr h)
   ·have hq':q<(ckL zs i).length:=hq
    rw[G8 zs i q hq']
    obtain⟨g1,g2⟩:=hu (4*i+q) (by rw[hcl]at hq';omega)
    rw[cell?_same (M.keep b ltb nb),show base+4*i+q=base+(4*i+q)from by omega,g1,g2]
  have hrel:Rel X W ρ' (STC rs rs.length (ckL zs i)) ρ' (E0 a (ckV b base zs.length i)) W:=by
   refine⟨a1,fun t ht=> ?_,R.mem.base,by rw[a4];exact hG.nil _ _,cY.refl _ _,cC.refl _⟩
   have ht:t<38:=ht
   by_cases e3:t=3
   ·subst e3
    rw[a2];exact R.tmps 3 (by show 3<38;decide)
   ·by_cases e4:t=4
    ·subst e4;rw[a3];exact hview
    ·rw[show(STC rs rs.length (ckL zs i)).tmps.getD t (.tup [])=.any from N9 ht (by simp[e3,e4])];exact .any _
  have hun: ∀j,2≤j→ρ' j=.unborn:=fun j hj=>by
   have hs:=R.mem.slot j
   rw[Heap.get_ge (by show 2≤j;exact hj)]at hs
   cases hx:ρ' j<;>rw[hx]at hs<;>first|rfl|exact hs.elim
  refine wpIn_mono (bTC (ro:=some l) rs (ckL zs i) (by rw[hcl];omega) hrl hun hrel _) ?_
  rintro e a' W' ⟨x,t,ρ'',rfl,⟨rfl,rfl⟩,Q⟩
  have keep: ∀x,x<w.heap.size→ ¬b9 ρ1 x→W'.heap[x]? =W.heap[x]? :=fun x hx hn=>Q.mono.keep x (by omega) (nl x hx hn)
  refine⟨⟨Q.mono.size,fun x o _ ho hc=>by rw[Q.mono.keep x (Array.getElem?_eq_some_iff.1 ho).1 (R.mem.noRow ho hc)];exact ho⟩,⟨cell?_same (keep b1 lt1 n1),cell?_same (keep b2 lt2 n2)⟩, ?_⟩
  have R':Rel X w0 ρ0 ⟨(QTC [] 0).tmps,(RTC (rs++[gZ (ckL zs i)]) (rs.length+1) (ckL zs i)).heap⟩ ρ'' {tmps:=a.tmps,defers:=[]} W':=
   ⟨R.size,fun t ht=>AVR.monoB Q.mono Q.ids (R.tmps t ht),R.mem.outer Q.mem,hG.nil _ _,R.mono.trans Q.mono,R.ids.trans Q.ids⟩
  have R3:=R'.remap0 h0' (live:=[3]) (order:=[0,2]) (by decide)
  rw[(by kernel_rfl:Am.remap [3] [0,2] ⟨(QTC [] 0).tmps,(RTC (rs++[gZ (ckL zs i)]) (rs.length+1) (ckL zs i)).heap⟩=QTC (rs++[gZ (ckL zs i)]) (rs.length+1))]at R3
  have e:qT zs (pre++[i])=rs++[gZ (ckL zs i)]:=by rw[←hrs];simp[qT]
  show∃ρ',Rel X w0 ρ0 (QTC (qT zs (pre++[i])) (qT zs (pre++[i])).length) ρ' _ _∧_
  rw[e,List.length_append]
  exact⟨_,R3,M.trans (Q.mono.trans ⟨fun _ _ _=>rfl,fun _ _=>rfl,Nat.le_refl _,fun x hx=> .inl (dE _ _ _ x hx)⟩)⟩
 case done=>
  rintro D ys W hD rfl ⟨ρ',R,M⟩ hk
  refine⟨.normal,_,ρ',rfl,⟨rfl,rfl⟩,⟨R.size,R.tmps,R.mem, ?_,R.mono,R.ids⟩⟩
  obtain⟨Ds,d1,d2,d3⟩:=r.defers
  have lt: ∀x∈Ds,x<w.heap.size:=fun x hx=>(Array.getElem?_eq_some_iff.1 (d3 x hx).2).1
  refine⟨D::Ds,List.nodup_cons.2 ⟨fun h=> ?_,d1⟩,by simp[d2],fun x hx=> ?_⟩
  ·have:=lt D h;omega
  ·rcases List.mem_cons.1 hx with rfl|hx
   ·exact⟨by omega,hk⟩
   ·refine⟨(d3 x hx).1, ?_⟩
    rw[M.keep x (lt x hx) (fun h=>r.mem.noMark (d3 x hx).2 (hsub x h))];exact(d3 x hx).2
end
section
def gN (s:ByteArray):List (List Int):=bif eS s then dF (c6 s)else []
theorem fG (s:ByteArray):(c6 s).length=s.size:=by unfold c6;rw[List.length_map,Array.length_toList];rfl
def SX:aO:=fun args h=>
 match args,h with
 |[.c (.str s)],[]=>
  some (.c (.sl 0 0 (gN s).length 1 none),[.live (.ivs .i64 (gN s))],[decide ((s.size:Int)≤9223372036854775807)])
 |_,_=>none
theorem mTC:aR Tryz.prog 97 SX:=by
 intro args h res h' o he ho
 unfold SX at he
 split at he
 case h_2=>cases he
 rename_i s
 simp only[Option.some.injEq,Prod.mk.injEq]at he
 obtain⟨rfl,rfl,rfl⟩:=he
 simp only[List.mem_cons,List.not_mem_nil,or_false,forall_eq_or_imp,forall_eq,decide_eq_true_eq]at ho
 have o1:=ho
 unfold gN
 cases h:eS s with
 |false=>exact bF.nils (c0:=.ivs .i64 []) (cU JF (a7M s [] 0 []) (by kernel_rfl) (by kernel_rfl) rfl (by simp only[h,o1,decide_true,rpS,decide_false,beq_self_eq_true,bne_self_eq_false,Bool.not_true,Bool.not_false,Bool.not_not,cond_true,cond_false,Bool.true_and,Bool.and_true,Bool.false_and,Bool.and_false,Bool.or_true,Bool.true_or,Bool.or_false,Bool.false_or,Bool.and_eq_true,Bool.not_eq_true',decide_eq_true_eq,decide_eq_false_iff_not,true_and,and_true])) rfl
 |true=>
  have hs:1≤s.size∧s.size≤14:=by
   unfold eS at h
   rw[Bool.and_eq_true]at h
   have:=bQ.1 h.2
   omega
  have g:=gTC (c6 s) (by rw[fG];omega) (by rw[fG];omega)
  rw[fG]at g
  have e:=a7N s (dF (c6 s)) (dF (c6 s)).length
  rw[Int.toNat_natCast]at e
  refine mo JF e (by simp only[h,o1,Int.le_refl,decide_true,rpS,decide_false,beq_self_eq_true,bne_self_eq_false,Bool.not_true,Bool.not_false,Bool.not_not,cond_true,cond_false,Bool.true_and,Bool.and_true,Bool.false_and,Bool.and_false,Bool.or_true,Bool.true_or,Bool.or_false,Bool.false_or,Bool.and_eq_true,Bool.not_eq_true',decide_eq_true_eq,decide_eq_false_iff_not,true_and,and_true]) (hlc:=(fun cc hcc=> ?_))
  have ec:aB fTC=cc:=by unfold aB;rw[hcc]
  exact aL.blk (by rw[←ec];exact ZS) g aL.nil
theorem rJ {α:Type} [BEq α] [LawfulBEq α] {d:α} {a b:List α} (h:a.length=b.length):cL (fun i=>a.getD i d==b.getD i d) a.length 0=(a==b):=by
 rw[Bool.eq_iff_iff,cF,beq_iff_eq]
 constructor
 ·intro g
  exact tB (d:=d) h fun i hi=>beq_iff_eq.1 (g i (Nat.zero_le _) (by omega))
 ·rintro rfl i _ _
  exact beq_self_eq_true _
noncomputable abbrev fQE:=Tryz.f169
noncomputable def IQE (a b:List Int) (i:Int):St:=aS fQE.ntmps [(0,.c (.view none (.ints .i64 a) a.length 1 none)),(1,.c (.view none (.ints .i64 b) b.length 1 none)),(12,.c (.int .i64 (a.length:Int))),(13,.c (.int .i64 i))] []
noncomputable def XQE:St:=aS fQE.ntmps [] []
noncomputable def YQE:St:=aS fQE.ntmps [(4,.c (.bool false))] []
def EV (a b:List Int) (i:Int):=bt4 (aM tt (aH yD) ([]) 0 100 (aC 0 (aB fQE)) (IQE a b i)) (aK 0 (aE fQE 0) (aG fQE 0)) (↑a.length:Int) (↑b.length:Int) (P:=fun q0 q1 q2 q3=>q1 (q0 [(0,true),(0,true)])=
  some (.ret,(decide (i<q2)&&(decide (0≤i)&&(decide (i<q2)&&(decide (i.toNat<a.length)&&(decide (0≤i)&&(decide (i<q3)&&(decide (i.toNat<b.length)&&((a.getD i.toNat 0 !=b.getD i.toNat 0)&&true)))))))),[],YQE)∧q1 (q0 [(0,true),(0,false)])=
  some (.normal,(decide (i<q2)&&(decide (0≤i)&&(decide (i<q2)&&(decide (i.toNat<a.length)&&(decide (0≤i)&&(decide (i<q3)&&(decide (i.toNat<b.length)&&((!a.getD i.toNat 0 !=b.getD i.toNat 0)&&true)))))))),[],IQE a b (IntKind.i64.wrap (i+1)))∧q1 (q0 [(0,false)])=
  some (.exit 0,((!decide (i<q2))&&true),[],XQE)) ⟨by kernel_rfl,by kernel_rfl,by kernel_rfl⟩
def a41 (a b:List Int) (i:Int):=(EV a b i).1
def a42 (a b:List Int) (i:Int):=(EV a b i).2.1
def a43 (a b:List Int) (i:Int):=(EV a b i).2.2
theorem a7B (a b:List Int) (lcv:List (Nat×LC)):aJ tt (aH yD) (lcv) 100 fQE [.c (.view none (.ints .i64 a) a.length 1 none),.c (.view none (.ints .i64 b) b.length 1 none)] [] [(0,true)]=
  some ⟨.c (.bool false),[],(((↑a.length:Int)!=(↑b.length:Int))&&true),[]⟩:=by kernel_rfl
theorem a7C (a b:List Int):aJ tt (aH yD) ([(0,⟨aE fQE 0,IQE a b 0,.normal,XQE⟩)]) 100 fQE [.c (.view none (.ints .i64 a) a.length 1 none),.c (.view none (.ints .i64 b) b.length 1 none)] [] [(0,false)]=
  some ⟨.c (.bool true),[],((!(↑a.length:Int)!=(↑b.length:Int))&&true),[IQE a b 0=IQE a b 0]⟩:=by kernel_rfl
def ZE (a b:List Int):=bt3 (aJ tt (aH yD) ([(0,⟨aE fQE 0,IQE a b 0,.ret,YQE⟩)]) 100 fQE [.c (.view none (.ints .i64 a) a.length 1 none),.c (.view none (.ints .i64 b) b.length 1 none)] []) (↑a.length:Int) (↑b.length:Int) (P:=fun q0 q1 q2=>q0 [(0,true)]=
  some ⟨.c (.bool false),[],((q1 !=q2)&&true),[]⟩∧q0 [(0,false)]=
  some ⟨.c (.bool false),[],((!q1 !=q2)&&true),[IQE a b 0=IQE a b 0]⟩) ⟨by kernel_rfl,by kernel_rfl⟩
def a89 (a b:List Int):=(ZE a b).2
theorem EO {α:Type} [BEq α] [LawfulBEq α] {a b:List α} (h:((a.length:Int)!=(b.length:Int))=true):(a==b)=false:=by
 rw[beq_eq_false_iff_ne];rintro rfl;simp at h
theorem EN {α:Type} {a b:List α} (h:((a.length:Int)!=(b.length:Int))=false):a.length=b.length:=by
 simp only[bne_eq_false_iff_eq]at h;omega
theorem lQE (a b:List Int) (hab:a.length=b.length) (hn:a.length≤274877906944):aP none Tryz.prog 0 (.block 0 (.loop (aC 0 (aB fQE)))) (IQE a b 0) fun e t=>e=(bif a==b then .normal else .ret)∧t=bif a==b then XQE else YQE:=by
 rw[←rJ (d:=0) hab]
 refine aP.all (ro:=none) hT JF bE a.length (fun i=>a.getD i 0==b.getD i 0) (fun i=>IQE a b i) XQE YQE .ret (.inr rfl) (aE fQE 0) (aG fQE 0) (fun _=>[]) (fun _ _=>aL.nil) (fun i hi h=> ?_) (fun i hi h=> ?_) ⟨_,_,⟨_,_,a43 a b a.length,by simp,by simp⟩⟩
 ·have h:(a.getD i 0==b.getD i 0)=true:=h
  have e:=a42 a b i
  rw[aF (by omega) (by omega),Int.toNat_natCast]at e
  exact⟨_,_,⟨_,_,e,by simp only[bne,h,decide_true,rpS,decide_false,beq_self_eq_true,bne_self_eq_false,Bool.not_true,Bool.not_false,Bool.not_not,cond_true,cond_false,Bool.true_and,Bool.and_true,Bool.false_and,Bool.and_false,Bool.or_true,Bool.true_or,Bool.or_false,Bool.false_or,Bool.and_eq_true,Bool.not_eq_true',decide_eq_true_eq,decide_eq_false_iff_not,true_and,and_true];omega,by simp⟩⟩
 ·have h:(a.getD i 0==b.getD i 0)=false:=h
  have e:=a41 a b i
  rw[Int.toNat_natCast]at e
  exact⟨_,_,⟨_,_,e,by simp only[bne,h,decide_true,rpS,decide_false,beq_self_eq_true,bne_self_eq_false,Bool.not_true,Bool.not_false,Bool.not_not,cond_true,cond_false,Bool.true_and,Bool.and_true,Bool.false_and,Bool.and_false,Bool.or_true,Bool.true_or,Bool.or_false,Bool.false_or,Bool.and_eq_true,Bool.not_eq_true',decide_eq_true_eq,decide_eq_false_iff_not,true_and,and_true];omega,by simp⟩⟩
def SP:aO:=fun args h=>
 match args,h with
 |[.c (.view _ (.ints .i64 a) n1 1 _),.c (.view _ (.ints .i64 b) n2 1 _)],[]=>
  some (.c (.bool (a==b)),[],[decide (a.length≤274877906944)])
 |_,_=>none
theorem mQE:aT Tryz.prog 169 SP:=by
 intro args h res h' o hnorm he ho
 unfold SP at he
 split at he
 case h_2=>cases he
 rename_i nl1 a n1 cap1 nl2 b n2 cap2
 simp only[Option.some.injEq,Prod.mk.injEq]at he
 obtain⟨rfl,rfl,rfl⟩:=he
 simp only[List.mem_cons,List.not_mem_nil,or_false,forall_eq_or_imp,forall_eq,decide_eq_true_eq]at ho
 have o1:=ho
 simp only[b8,AV.norm,bA,aI.norm,Con.size,List.cons.injEq,AV.c.injEq,AV.agg.injEq,aI.view.injEq,aN,true_and,and_true]at hnorm
 obtain⟨⟨rfl,rfl,rfl⟩,rfl,rfl,rfl⟩:=hnorm
 cases h:((a.length:Int)!=(b.length:Int))with
 |true=>rw[EO h];exact cU JF (a7B a b []) (by kernel_rfl) (by kernel_rfl) rfl (by rw[h];rfl)
 |false=>
  have g:=lQE a b (EN h) o1
  cases he:a==b with
  |true=>rw[he]at g;exact bW JF (a7C a b) (by kernel_rfl) (by kernel_rfl) (by kernel_rfl) g (by simp) (by rw[h];rfl)
  |false=>rw[he]at g;exact bW JF (a89 a b) (by kernel_rfl) (by kernel_rfl) (by kernel_rfl) g (by simp) (by rw[h];rfl)
noncomputable def DU:List aZ:=[⟨169,[],nm SP⟩,⟨97,[],SX⟩]++yD
theorem ZZ:aA Tryz.prog DU:=by
 refine aA.append ?_ ZY
 intro e he
 simp only[List.mem_cons,List.not_mem_nil,or_false]at he
 rcases he with rfl|rfl
 ·exact mQE.ok
 ·exact mTC
theorem R5:bL Tryz.prog (aH DU):=aQ ZZ
noncomputable abbrev fQF:=Tryz.f168
noncomputable def IQF (a b:List (List Int)) (i:Int):St:=aS fQF.ntmps [(1,.c (.view none (.ivs .i64 b) b.length 1 none)),(2,.c (.fn 169 [])),(15,.c (.view none (.ivs .i64 a) a.length 1 none)),(16,.c (.int .i64 (a.length:Int))),(17,.c (.int .i64 i))] []
noncomputable def XQF:St:=aS fQF.ntmps [] []
noncomputable def YQF:St:=aS fQF.ntmps [(6,.c (.bool false))] []
def EW (a b:List (List Int)) (i:Int):=bt5 (aM tt (aH DU) ([]) 0 100 (aC 0 (aB fQF)) (IQF a b i)) (aK 0 (aE fQF 0) (aG fQF 0)) (↑a.length:Int) (↑b.length:Int) (a.getD i.toNat []) (P:=fun q0 q1 q2 q3 q4=>q1 (q0 [(0,true),(0,true)])=
  some (.ret,(decide (i<q2)&&(decide (0≤i)&&(decide (i<q2)&&(decide (i.toNat<a.length)&&(decide (0≤i)&&(decide (i<q3)&&(decide (i.toNat<b.length)&&(decide (q4.length≤274877906944)&&((!a.getD i.toNat []==b.getD i.toNat [])&&true))))))))),[],YQF)∧q1 (q0 [(0,true),(0,false)])=
  some (.normal,(decide (i<q2)&&(decide (0≤i)&&(decide (i<q2)&&(decide (i.toNat<a.length)&&(decide (0≤i)&&(decide (i<q3)&&(decide (i.toNat<b.length)&&(decide (q4.length≤274877906944)&&((!!a.getD i.toNat []==b.getD i.toNat [])&&true))))))))),[],IQF a b (IntKind.i64.wrap (i+1)))∧q1 (q0 [(0,false)])=
  some (.exit 0,((!decide (i<q2))&&true),[],XQF)) ⟨by kernel_rfl,by kernel_rfl,by kernel_rfl⟩
def a44 (a b:List (List Int)) (i:Int):=(EW a b i).1
def a45 (a b:List (List Int)) (i:Int):=(EW a b i).2.1
def a46 (a b:List (List Int)) (i:Int):=(EW a b i).2.2
theorem a7D (a b:List (List Int)) (lcv:List (Nat×LC)):aJ tt (aH DU) (lcv) 100 fQF [.c (.view none (.ivs .i64 a) a.length 1 none),.c (.view none (.ivs .i64 b) b.length 1 none),.c (.fn 169 [])] [] [(0,true)]=
  some ⟨.c (.bool false),[],(((↑a.length:Int)!=(↑b.length:Int))&&true),[]⟩:=by kernel_rfl
theorem a7E (a b:List (List Int)):aJ tt (aH DU) ([(0,⟨aE fQF 0,IQF a b 0,.normal,XQF⟩)]) 100 fQF [.c (.view none (.ivs .i64 a) a.length 1 none),.c (.view none (.ivs .i64 b) b.length 1 none),.c (.fn 169 [])] [] [(0,false)]=
  some ⟨.c (.bool true),[],((!(↑a.length:Int)!=(↑b.length:Int))&&true),[IQF a b 0=IQF a b 0]⟩:=by kernel_rfl
def ZF (a b:List (List Int)):=bt3 (aJ tt (aH DU) ([(0,⟨aE fQF 0,IQF a b 0,.ret,YQF⟩)]) 100 fQF [.c (.view none (.ivs .i64 a) a.length 1 none),.c (.view none (.ivs .i64 b) b.length 1 none),.c (.fn 169 [])] []) (↑a.length:Int) (↑b.length:Int) (P:=fun q0 q1 q2=>q0 [(0,true)]=
  some ⟨.c (.bool false),[],((q1 !=q2)&&true),[]⟩∧q0 [(0,false)]=
  some ⟨.c (.bool false),[],((!q1 !=q2)&&true),[IQF a b 0=IQF a b 0]⟩) ⟨by kernel_rfl,by kernel_rfl⟩
def a8A (a b:List (List Int)):=(ZF a b).2
theorem lQF (a b:List (List Int)) (hab:a.length=b.length) (hn:a.length≤274877906944) (hr: ∀x∈a,x.length≤274877906944):aP none Tryz.prog 0 (.block 0 (.loop (aC 0 (aB fQF)))) (IQF a b 0) fun e t=>e=(bif a==b then .normal else .ret)∧t=bif a==b then XQF else YQF:=by
 have hl: ∀i:Nat,(a.getD i []).length≤274877906944:=fun i=>by
  rw[List.getD_eq_getElem?_getD]
  cases h:a[i]? with
  |none=>simp
  |some x=>exact hr x (List.mem_of_getElem? h)
 rw[←rJ (d:=[]) hab]
 refine aP.all (ro:=none) hT R5 bE a.length (fun i=>a.getD i []==b.getD i []) (fun i=>IQF a b i) XQF YQF .ret (.inr rfl) (aE fQF 0) (aG fQF 0) (fun _=>[]) (fun _ _=>aL.nil) (fun i hi h=> ?_) (fun i hi h=> ?_) ⟨_,_,⟨_,_,a46 a b a.length,by simp,by simp⟩⟩
 ·have h:(a.getD i []==b.getD i [])=true:=h
  have e:=a45 a b i
  rw[aF (by omega) (by omega),Int.toNat_natCast]at e
  exact⟨_,_,⟨_,_,e,by simp only[h,hl,decide_true,rpS,decide_false,beq_self_eq_true,bne_self_eq_false,Bool.not_true,Bool.not_false,Bool.not_not,cond_true,cond_false,Bool.true_and,Bool.and_true,Bool.false_and,Bool.and_false,Bool.or_true,Bool.true_or,Bool.or_false,Bool.false_or,Bool.and_eq_true,Bool.not_eq_true',decide_eq_true_eq,decide_eq_false_iff_not,true_and,and_true];omega,by simp⟩⟩
 ·have h:(a.getD i []==b.getD i [])=false:=h
  have e:=a44 a b i
  rw[Int.toNat_natCast]at e
  exact⟨_,_,⟨_,_,e,by simp only[h,hl,decide_true,rpS,decide_false,beq_self_eq_true,bne_self_eq_false,Bool.not_true,Bool.not_false,Bool.not_not,cond_true,cond_false,Bool.true_and,Bool.and_true,Bool.false_and,Bool.and_false,Bool.or_true,Bool.true_or,Bool.or_false,Bool.false_or,Bool.and_eq_true,Bool.not_eq_true',decide_eq_true_eq,decide_eq_false_iff_not,true_and,and_true];omega,by simp⟩⟩
def fR (m:List (List Int)):Bool:=decide (m.length≤274877906944)&&m.all fun x=>decide (x.length≤274877906944)
theorem kJ {m:List (List Int)} (h:fR m=true):m.length≤274877906944∧ ∀x∈m,x.length≤274877906944:=by
 simp only[fR,Bool.and_eq_true,rpS,decide_eq_true_eq,List.all_eq_true]at h;exact h
def SQ:aO:=fun args h=>
 match args,h with
 |[.c (.view _ (.ivs .i64 a) n1 1 _),.c (.view _ (.ivs .i64 b) n2 1 _),.c (.fn g [])],[]=>
  some (.c (.bool (a==b)),[],[fR a,decide (g=169)])
 |_,_=>none
theorem mQF:aT Tryz.prog 168 SQ:=by
 intro args h res h' o hnorm he ho
 unfold SQ at he
 split at he
 case h_2=>cases he
 rename_i nl1 a n1 cap1 nl2 b n2 cap2 g
 simp only[Option.some.injEq,Prod.mk.injEq]at he
 obtain⟨rfl,rfl,rfl⟩:=he
 simp only[List.mem_cons,List.not_mem_nil,or_false,forall_eq_or_imp,forall_eq,decide_eq_true_eq]at ho
 obtain⟨o1,o2⟩:=ho
 simp only[b8,AV.norm,bA,aI.norm,Con.size,List.cons.injEq,AV.c.injEq,AV.agg.injEq,aI.view.injEq,aN,true_and,and_true]at hnorm
 obtain⟨⟨rfl,rfl,rfl⟩,⟨rfl,rfl,rfl⟩⟩:=hnorm
 subst o2
 obtain⟨o1,hr⟩:=kJ o1
 cases h:((a.length:Int)!=(b.length:Int))with
 |true=>rw[EO h];exact cU R5 (a7D a b []) (by kernel_rfl) (by kernel_rfl) rfl (by rw[h];rfl)
 |false=>
  have g:=lQF a b (EN h) o1 hr
  cases he:a==b with
  |true=>rw[he]at g;exact bW R5 (a7E a b) (by kernel_rfl) (by kernel_rfl) (by kernel_rfl) g (by simp) (by rw[h];rfl)
  |false=>rw[he]at g;exact bW R5 (a8A a b) (by kernel_rfl) (by kernel_rfl) (by kernel_rfl) g (by simp) (by rw[h];rfl)
end
section
noncomputable def mV:List aZ:=[⟨168,[],nm SQ⟩]++DU
theorem a00:aA Tryz.prog mV:=by
 refine aA.append ?_ ZZ
 intro e he
 simp only[List.mem_cons,List.not_mem_nil,or_false]at he
 subst he;exact mQF.ok
theorem CB:bL Tryz.prog (aH mV):=aQ a00
noncomputable abbrev fS3:=Tryz.f164
noncomputable def IS3 (a b:List (List Int)) (i:Int):St:=aS fS3.ntmps [(0,.c (.view none (.ivs .i64 a) a.length 1 none)),(1,.c (.view none (.ivs .i64 b) b.length 1 none)),(5,.c (.int .i64 i))] []
noncomputable def JS3 (a b:List (List Int)) (i k:Int):St:=aS fS3.ntmps [(0,.c (.view none (.ivs .i64 a) a.length 1 none)),(1,.c (.view none (.ivs .i64 b) b.length 1 none)),(5,.c (.int .i64 i)),(6,.c (.int .i64 k))] []
noncomputable def YS3 (a b:List (List Int)) (i:Int):St:=aS fS3.ntmps [(0,.c (.view none (.ivs .i64 a) a.length 1 none)),(1,.c (.view none (.ivs .i64 b) b.length 1 none)),(4,.c (.bool false)),(5,.c (.int .i64 i))] []
noncomputable def ZS3:St:=aS fS3.ntmps [(4,.c (.bool false))] []
noncomputable def XS3:St:=aS fS3.ntmps [] []
def EK (a b:List (List Int)) (i k:Int):=bt6 (aM tt (aH mV) ([]) 0 100 (aC 2 (aB fS3)) (JS3 a b i k)) (a.getD i.toNat []) (b.getD i.toNat []) (aK 0 (aE fS3 2) (aG fS3 2)) (↑a.length:Int) (↑b.length:Int) (P:=fun q0 q1 q2 q3 q4 q5=>q3 (q0 [(0,true),(0,true)])=
  some (.ret,(decide (k<4)&&(decide (0≤i)&&(decide (i<q4)&&(decide (i.toNat<a.length)&&(decide (0≤k)&&(decide (k<(↑q1.length:Int))&&(decide (k.toNat<q1.length)&&(decide (0≤i)&&(decide (i<q5)&&(decide (i.toNat<b.length)&&(decide (0≤k)&&(decide (k<(↑q2.length:Int))&&(decide (k.toNat<q2.length)&&((q1.getD k.toNat 0 !=q2.getD k.toNat 0)&&true)))))))))))))),[],YS3 a b i)∧q3 (q0 [(0,true),(0,false)])=
  some (.normal,(decide (k<4)&&(decide (0≤i)&&(decide (i<q4)&&(decide (i.toNat<a.length)&&(decide (0≤k)&&(decide (k<(↑q1.length:Int))&&(decide (k.toNat<q1.length)&&(decide (0≤i)&&(decide (i<q5)&&(decide (i.toNat<b.length)&&(decide (0≤k)&&(decide (k<(↑q2.length:Int))&&(decide (k.toNat<q2.length)&&((!q1.getD k.toNat 0 !=q2.getD k.toNat 0)&&true)))))))))))))),[],JS3 a b i (IntKind.i64.wrap (k+1)))∧q3 (q0 [(0,false)])=
  some (.exit 2,((!decide (k<4))&&true),[],IS3 a b i)) ⟨by kernel_rfl,by kernel_rfl,by kernel_rfl⟩
def a0O (a b:List (List Int)) (i k:Int):=(EK a b i k).1
def a0P (a b:List (List Int)) (i k:Int):=(EK a b i k).2.1
def a0Q (a b:List (List Int)) (i k:Int):=(EK a b i k).2.2
theorem a47 (a b:List (List Int)) (i:Int):aK 0 (aE fS3 0) (aG fS3 0) (aM tt (aH mV) ([(2,⟨aE fS3 2,JS3 a b i 0,.normal,IS3 a b i⟩)]) 0 100 (aC 0 (aB fS3)) (IS3 a b i) [(0,true)])=
  some (.normal,((decide (i<(↑a.length:Int)))&&true),[JS3 a b i 0=JS3 a b i 0],IS3 a b (IntKind.i64.wrap (i+1))):=by kernel_rfl
theorem a48 (a b:List (List Int)) (i:Int) (lcv:List (Nat×LC)):aK 0 (aE fS3 0) (aG fS3 0) (aM tt (aH mV) (lcv) 0 100 (aC 0 (aB fS3)) (IS3 a b i) [(0,false)])=
  some (.exit 0,((!decide (i<(↑a.length:Int)))&&true),[],XS3):=by kernel_rfl
theorem a21 (a b:List (List Int)) (i:Int):aK 0 (aE fS3 0) (aG fS3 0) (aM tt (aH mV) ([(2,⟨aE fS3 2,JS3 a b i 0,.ret,YS3 a b i⟩)]) 0 100 (aC 0 (aB fS3)) (IS3 a b i) [(0,true)])=
  some (.ret,((decide (i<(↑a.length:Int)))&&true),[JS3 a b i 0=JS3 a b i 0],ZS3):=by kernel_rfl
theorem a7F (a b:List (List Int)) (lcv:List (Nat×LC)):aJ tt (aH mV) (lcv) 100 fS3 [.c (.view none (.ivs .i64 a) a.length 1 none),.c (.view none (.ivs .i64 b) b.length 1 none)] [] [(0,true)]=
  some ⟨.c (.bool false),[],(((↑a.length:Int)!=(↑b.length:Int))&&true),[]⟩:=by kernel_rfl
theorem a7G (a b:List (List Int)):aJ tt (aH mV) ([(0,⟨aE fS3 0,IS3 a b 0,.normal,XS3⟩)]) 100 fS3 [.c (.view none (.ivs .i64 a) a.length 1 none),.c (.view none (.ivs .i64 b) b.length 1 none)] [] [(0,false)]=
  some ⟨.c (.bool true),[],((!(↑a.length:Int)!=(↑b.length:Int))&&true),[IS3 a b 0=IS3 a b 0]⟩:=by kernel_rfl
theorem a8B (a b:List (List Int)):aJ tt (aH mV) ([(0,⟨aE fS3 0,IS3 a b 0,.ret,ZS3⟩)]) 100 fS3 [.c (.view none (.ivs .i64 a) a.length 1 none),.c (.view none (.ivs .i64 b) b.length 1 none)] [] [(0,false)]=
  some ⟨.c (.bool false),[],((!(↑a.length:Int)!=(↑b.length:Int))&&true),[IS3 a b 0=IS3 a b 0]⟩:=by kernel_rfl
def r7 (m:List (List Int)):Bool:=m.all fun x=>x.length==4
theorem AJ {m:List (List Int)} (h:r7 m=true) {i:Nat} (hi:i<m.length):(m.getD i []).length=4:=by
 have:=List.all_eq_true.1 h (m.getD i []) (by rw[List.getD_eq_getElem?_getD,List.getElem?_eq_getElem hi];exact List.getElem_mem hi)
 simpa using this
theorem a9J (a b:List (List Int)) (i:Nat) (hi:i<a.length) (hab:a.length=b.length) (hn:a.length≤274877906944) (ha:(a.getD i []).length=4) (hb:(b.getD i []).length=4):
  aP none Tryz.prog 0 (.block 2 (.loop (aC 2 (aB fS3)))) (JS3 a b i 0) fun e t=>e=(bif a.getD i []==b.getD i []then .normal else .ret)∧t=bif a.getD i []==b.getD i []then IS3 a b i else YS3 a b i:=by
 rw[←rJ (d:=0) (ha.trans hb.symm),ha]
 refine aP.all (ro:=none) hT CB bE 4 (fun k=>(a.getD i []).getD k 0==(b.getD i []).getD k 0) (fun k=>JS3 a b i k) (IS3 a b i) (YS3 a b i) .ret (.inr rfl) (aE fS3 2) (aG fS3 2) (fun _=>[]) (fun _ _=>aL.nil) (fun k hk h=> ?_) (fun k hk h=> ?_) ⟨_,_,⟨_,_,a0Q a b i 4,by simp,by simp⟩⟩
 ·have h:((a.getD i []).getD k 0==(b.getD i []).getD k 0)=true:=h
  have e:=a0P a b i k
  rw[aF (by omega) (by omega),Int.toNat_natCast,Int.toNat_natCast]at e
  exact⟨_,_,⟨_,_,e,by simp only[bne,h,ha,hb,decide_true,rpS,decide_false,beq_self_eq_true,bne_self_eq_false,Bool.not_true,Bool.not_false,Bool.not_not,cond_true,cond_false,Bool.true_and,Bool.and_true,Bool.false_and,Bool.and_false,Bool.or_true,Bool.true_or,Bool.or_false,Bool.false_or,Bool.and_eq_true,Bool.not_eq_true',decide_eq_true_eq,decide_eq_false_iff_not,true_and,and_true];omega,by simp⟩⟩
 ·have h:((a.getD i []).getD k 0==(b.getD i []).getD k 0)=false:=h
  have e:=a0O a b i k
  rw[Int.toNat_natCast,Int.toNat_natCast]at e
  exact⟨_,_,⟨_,_,e,by simp only[bne,h,ha,hb,decide_true,rpS,decide_false,beq_self_eq_true,bne_self_eq_false,Bool.not_true,Bool.not_false,Bool.not_not,cond_true,cond_false,Bool.true_and,Bool.and_true,Bool.false_and,Bool.and_false,Bool.or_true,Bool.true_or,Bool.or_false,Bool.false_or,Bool.and_eq_true,Bool.not_eq_true',decide_eq_true_eq,decide_eq_false_iff_not,true_and,and_true];omega,by simp⟩⟩
theorem lS3 (a b:List (List Int)) (hab:a.length=b.length) (hn:a.length≤274877906944) (ha:r7 a=true) (hb:r7 b=true):aP none Tryz.prog 0 (.block 0 (.loop (aC 0 (aB fS3)))) (IS3 a b 0) fun e t=>e=(bif a==b then .normal else .ret)∧t=bif a==b then XS3 else ZS3:=by
 rw[←rJ (d:=[]) hab]
 have lc: ∀i,i<a.length→ ∀ex q,(ex=(bif a.getD i []==b.getD i []then .normal else .ret)∧q=bif a.getD i []==b.getD i []then IS3 a b i else YS3 a b i)→aL none Tryz.prog 0 [(2,(⟨aE fS3 2,JS3 a b i 0,ex,q⟩:LC))] (aC 0 (aB fS3)):=fun i hi ex q h=>by
  obtain⟨rfl,rfl⟩:=h
  exact aL.blk (b:=.loop (aC 2 (aB fS3))) (by kernel_rfl) (a9J a b i hi hab hn (AJ ha hi) (AJ hb (by omega))) aL.nil
 refine aP.all (ro:=none) hT CB bE a.length (fun i=>a.getD i []==b.getD i []) (fun i=>IS3 a b i) XS3 ZS3 .ret (.inr rfl) (aE fS3 0) (aG fS3 0) (fun i=>[(2,⟨aE fS3 2,JS3 a b i 0,bif a.getD i []==b.getD i []then .normal else .ret,bif a.getD i []==b.getD i []then IS3 a b i else YS3 a b i⟩)]) (fun i hi=>lc i hi _ _ ⟨rfl,rfl⟩) (fun i hi h=> ?_) (fun i hi h=> ?_) ⟨_,_,⟨_,_,a48 a b a.length [],by simp,by simp⟩⟩
 ·have h:(a.getD i []==b.getD i [])=true:=h
  have e:=a47 a b i
  rw[aF (by omega) (by omega)]at e
  refine⟨100,[(0,true)], ?_⟩
  rw[h]
  exact⟨_,_,e,by simp;omega,by simp⟩
 ·have h:(a.getD i []==b.getD i [])=false:=h
  have e:=a21 a b i
  refine⟨100,[(0,true)], ?_⟩
  rw[h]
  exact⟨_,_,e,by simp;omega,by simp⟩
def ST:aO:=fun args h=>
 match args,h with
 |[.c (.view _ (.ivs .i64 a) n1 1 _),.c (.view _ (.ivs .i64 b) n2 1 _)],[]=>
  some (.c (.bool (a==b)),[],[decide (a.length≤274877906944),r7 a,r7 b])
 |_,_=>none
theorem mS3:aT Tryz.prog 164 ST:=by
 intro args h res h' o hnorm he ho
 unfold ST at he
 split at he
 case h_2=>cases he
 rename_i nl1 a n1 cap1 nl2 b n2 cap2
 simp only[Option.some.injEq,Prod.mk.injEq]at he
 obtain⟨rfl,rfl,rfl⟩:=he
 simp only[List.mem_cons,List.not_mem_nil,or_false,forall_eq_or_imp,forall_eq,decide_eq_true_eq]at ho
 obtain⟨o1,o2,o3⟩:=ho
 simp only[b8,AV.norm,bA,aI.norm,Con.size,List.cons.injEq,AV.c.injEq,AV.agg.injEq,aI.view.injEq,aN,true_and,and_true]at hnorm
 obtain⟨⟨rfl,rfl,rfl⟩,rfl,rfl,rfl⟩:=hnorm
 cases h:((a.length:Int)!=(b.length:Int))with
 |true=>rw[EO h];exact cU CB (a7F a b []) (by kernel_rfl) (by kernel_rfl) rfl (by rw[h];rfl)
 |false=>
  have g:=lS3 a b (EN h) o1 o2 o3
  cases he:a==b with
  |true=>rw[he]at g;exact bW CB (a7G a b) (by kernel_rfl) (by kernel_rfl) (by kernel_rfl) g (by simp) (by rw[h];rfl)
  |false=>rw[he]at g;exact bW CB (a8B a b) (by kernel_rfl) (by kernel_rfl) (by kernel_rfl) g (by simp) (by rw[h];rfl)
noncomputable abbrev fLC:=Tryz.f142
noncomputable def ILC (s:ByteArray) (m:List (List Int)) (n:Nat) (i:Int):St:=aS fLC.ntmps [(0,.c (.str s)),(3,.c (.sl 0 0 n 1 none)),(4,.c (.int .i64 i))] [.live (.ivs .i64 m)]
noncomputable def XLC (m:List (List Int)) (n:Nat):St:=aS fLC.ntmps [(3,.c (.sl 0 0 n 1 none))] [.live (.ivs .i64 m)]
noncomputable def JLC (s:ByteArray) (m:List (List Int)) (n:Nat) (i:Int) (v:List Int) (k:Int):St:=aS fLC.ntmps [(0,.c (.str s)),(3,.c (.sl 0 0 n 1 none)),(4,.c (.int .i64 i)),(5,.c (.sl 1 0 4 1 none)),(6,.c (.int .i64 k))] [.live (.ivs .i64 m),.live (.ints .i64 v)]
noncomputable def KLC (s:ByteArray) (m:List (List Int)) (n:Nat) (i:Int) (v:List Int):St:=aS fLC.ntmps [(0,.c (.str s)),(3,.c (.sl 0 0 n 1 none)),(4,.c (.int .i64 i)),(5,.c (.sl 1 0 4 1 none))] [.live (.ivs .i64 m),.live (.ints .i64 v)]
def EJ (s:ByteArray) (m:List (List Int)) (n:Nat) (i:Int) (v:List Int) (k:Int):=bt5 (aM tt (aH mV) ([]) 0 100 (aC 2 (aB fLC)) (JLC s m n i v k)) (IntKind.i64.wrap (i*4)+k) (aK 0 (aE fLC 2) (aG fLC 2)) (↑s.size:Int) (IntKind.i64.wrap (k+1)) (P:=fun q0 q1 q2 q3 q4=>q2 (q0 [(0,true),(0,true)])=
  some (.normal,(decide (k<4)&&(decide (IntKind.i64.wrap q1<q3)&&(decide (0≤IntKind.i64.wrap q1)&&(decide (IntKind.i64.wrap q1<q3)&&(decide (0≤k)&&(decide (k<4)&&((decide (k.toNat<v.length))&&true))))))),[],JLC s m n i (v.set k.toNat (IntKind.i64.wrap (IntKind.i64.wrap (IntKind.u8.wrap ((↑(s.data.getD (IntKind.i64.wrap q1).toNat 0).toNat:Int)-97))+1))) q4)∧q2 (q0 [(0,true),(0,false)])=
  some (.normal,(decide (k<4)&&((!decide (IntKind.i64.wrap q1<q3))&&true)),[],JLC s m n i (v) q4)∧q2 (q0 [(0,false)])=
  some (.exit 2,((!decide (k<4))&&true),[],KLC s m n i v)) ⟨by kernel_rfl,by kernel_rfl,by kernel_rfl⟩
def a0H (s:ByteArray) (m:List (List Int)) (n:Nat) (i:Int) (v:List Int) (k:Int):=(EJ s m n i v k).1
def a0I (s:ByteArray) (m:List (List Int)) (n:Nat) (i:Int) (v:List Int) (k:Int):=(EJ s m n i v k).2.1
def a0J (s:ByteArray) (m:List (List Int)) (n:Nat) (i:Int) (v:List Int) (k:Int):=(EJ s m n i v k).2.2
theorem a3K (s:ByteArray) (m:List (List Int)) (n:Nat) (i:Int) (v:List Int):aK 0 (aE fLC 0) (aG fLC 0) (aM tt (aH mV) ([(2,⟨aE fLC 2,JLC s m n i [0,0,0,0] 0,.normal,KLC s m n i v⟩)]) 0 100 (aC 0 (aB fLC)) (ILC s m n i) [(0,true)])=
  some (.normal,(decide (i<IntKind.i64.wrap ((IntKind.i64.wrap (IntKind.i64.wrap ((↑s.size:Int)+4)-1)).tdiv 4))&&(decide (4=v.length)&&(decide (n=m.length)&&((decide (n+1≤274877906944))&&true)))),[JLC s m n i [0,0,0,0] 0=JLC s m n i [0,0,0,0] 0],ILC s (m++[v]) (n+1) (IntKind.i64.wrap (i+1))):=by kernel_rfl
theorem a3L (s:ByteArray) (m:List (List Int)) (n:Nat) (i:Int) (v:List Int) (lcv:List (Nat×LC)):aK 0 (aE fLC 0) (aG fLC 0) (aM tt (aH mV) (lcv) 0 100 (aC 0 (aB fLC)) (ILC s m n i) [(0,false)])=
  some (.exit 0,((!decide (i<IntKind.i64.wrap ((IntKind.i64.wrap (IntKind.i64.wrap ((↑s.size:Int)+4)-1)).tdiv 4)))&&true),[],XLC m n):=by kernel_rfl
theorem a72 (s:ByteArray) (m:List (List Int)) (n:Nat):aJ tt (aH mV) ([(0,⟨aE fLC 0,ILC s [] 0 0,.normal,XLC m n⟩)]) 100 fLC [.c (.str s)] [] []=
  some ⟨.c (.sl 0 0 n 1 none),[.live (.ivs .i64 m)],true,[ILC s [] 0 0=ILC s [] 0 0]⟩:=by kernel_rfl
theorem zL (Q:Nat→Bool) (G:Nat→Int) (n:Nat) (hn:n≤4):(bI (fun k v=>bif Q k then v.set k (G k)else v) n 0 [0,0,0,0]).length=4∧ ∀q,q<4→(bI (fun k v=>bif Q k then v.set k (G k)else v) n 0 [0,0,0,0]).getD q 0=bif decide (q<n)&&Q q then G q else 0:=by
 refine aY (step:=fun k v=>bif Q k then v.set k (G k)else v) (fun m v=>v.length=4∧ ∀q,q<4→v.getD q 0=bif decide (q<m)&&Q q then G q else 0) n [0,0,0,0] ⟨rfl,fun q hq=> ?_⟩ fun k v hk ⟨h1,h2⟩=>⟨?_,fun q hq=> ?_⟩
 ·match q,hq with
  |0,_|1,_|2,_|3,_=>rfl
 ·cases Q k<;>simp[h1]
 ·cases hQ:Q k with
  |false=>
   rw[cond_false,h2 q hq]
   by_cases e:q=k
   ·subst e;rw[hQ];simp
   ·rw[show decide (q<k+1)=decide (q<k)from by rw[Bool.eq_iff_iff];simp only[decide_eq_true_eq];omega]
  |true=>
   rw[cond_true,List.getD_eq_getElem?_getD,List.getElem?_set]
   by_cases e:k=q
   ·subst e;rw[if_pos rfl,if_pos (by omega),hQ];simp
   ·rw[if_neg e,←List.getD_eq_getElem?_getD,h2 q hq,show decide (q<k+1)=decide (q<k)from by rw[Bool.eq_iff_iff];simp only[decide_eq_true_eq];omega]
def stC (s:ByteArray) (i k:Nat) (v:List Int):List Int:=bif decide (4*i+k<s.size)then v.set k (pB (chA s (4*i+k)))else v
theorem C8 (s:ByteArray) (i:Nat):(c6 s).getD i 0=chA s i:=by
 unfold c6 chA
 rw[List.getD_eq_getElem?_getD,List.getElem?_map,Array.getElem?_toList,Array.getD_eq_getD_getElem?]
 cases s.data[i]? <;>simp
theorem QU (s:ByteArray) (i:Nat):bI (stC s i) 4 0 [0,0,0,0]=gZ (ckL (c6 s) i):=by
 have hc:=rN (c6 s) i
 rw[fG]at hc
 obtain⟨a1,a2⟩:=zL (fun k=>decide (4*i+k<s.size)) (fun k=>pB (chA s (4*i+k))) 4 (Nat.le_refl _)
 obtain⟨b1,b2⟩:=zL (fun _=>true) (fun k=>pB ((ckL (c6 s) i).getD k 0)) (ckL (c6 s) i).length (by omega)
 refine tB (d:=0) (a1.trans b1.symm) fun q hq=> ?_
 have hq4:q<4:=by rw[←a1];exact hq
 refine(a2 q hq4).trans ((b2 q hq4).trans ?_).symm
 by_cases h:4*i+q<s.size
 ·have h2:q<(ckL (c6 s) i).length:=by omega
  rw[G8 _ _ _ h2,C8];simp[h,h2,hq4]
 ·have h2: ¬q<(ckL (c6 s) i).length:=by omega
  simp[h,h2]
theorem a9I (s:ByteArray) (m:List (List Int)) (n i:Nat) (hs:s.size≤1048576) (hi:4*i<s.size+4):aP none Tryz.prog 0 (.block 2 (.loop (aC 2 (aB fLC)))) (JLC s m n i [0,0,0,0] 0) fun e t=>e=.normal∧t=KLC s m n i (gZ (ckL (c6 s) i)):=by
 rw[←QU]
 refine aP.count (ro:=none) hT CB bE (m:=0) (id:=2) 4 (fun _ v=>v.length=4) (fun k v=>JLC s m n i v k) (fun v=>KLC s m n i v) (stC s i) (aE fLC 2) (aG fLC 2) (fun _ _=>[]) (fun _ _ _ _=>aL.nil) (fun k v hk hv=>⟨by unfold stC;cases decide (4*i+k<s.size)<;>simp[hv], ?_⟩) (fun v _=>⟨_,_,⟨_,_,a0J s m n i v 4,by simp,by simp⟩⟩) [0,0,0,0] rfl
 have ew:IntKind.i64.wrap (IntKind.i64.wrap ((i:Int)*4)+(k:Int))=((4*i+k:Nat):Int):=by
  rw[aF (i:=(i:Int)*4) (by omega) (by omega),aF (by omega) (by omega)];omega
 unfold stC
 by_cases h:4*i+k<s.size
 ·have e:=a0H s m n i v k
  rw[ew,aF (i:=(k:Int)+1) (by omega) (by omega),Int.toNat_natCast,Int.toNat_natCast]at e
  rw[decide_eq_true h,cond_true]
  refine⟨_,_,⟨_,_,e, ?_,by simp⟩⟩
  simp only[hv,decide_true,rpS,decide_false,beq_self_eq_true,bne_self_eq_false,Bool.not_true,Bool.not_false,Bool.not_not,cond_true,cond_false,Bool.true_and,Bool.and_true,Bool.false_and,Bool.and_false,Bool.or_true,Bool.true_or,Bool.or_false,Bool.false_or,Bool.and_eq_true,Bool.not_eq_true',decide_eq_true_eq,decide_eq_false_iff_not,true_and,and_true];omega
 ·have e:=a0I s m n i v k
  rw[ew,aF (i:=(k:Int)+1) (by omega) (by omega)]at e
  rw[decide_eq_false h,cond_false]
  refine⟨_,_,⟨_,_,e, ?_,by simp⟩⟩
  simp only[decide_true,rpS,decide_false,beq_self_eq_true,bne_self_eq_false,Bool.not_true,Bool.not_false,Bool.not_not,cond_true,cond_false,Bool.true_and,Bool.and_true,Bool.false_and,Bool.and_false,Bool.or_true,Bool.true_or,Bool.or_false,Bool.false_or,Bool.and_eq_true,Bool.not_eq_true',decide_eq_true_eq,decide_eq_false_iff_not,true_and,and_true];omega
def stM (s:ByteArray) (i:Nat) (m:List (List Int)):List (List Int):=m++[gZ (ckL (c6 s) i)]
theorem GT (s:ByteArray): ∀f i m,bI (stM s) f i m=m++(List.range' i f).map fun k=>gZ (ckL (c6 s) k)
 |0,i,m=>by simp[bI]
 |f+1,i,m=>by rw[bI,GT s f (i+1)];simp[stM,List.range'_succ]
theorem lLC (s:ByteArray) (hs:s.size≤1048576):aP none Tryz.prog 0 (.block 0 (.loop (aC 0 (aB fLC)))) (ILC s [] 0 0) fun e t=>e=.normal∧t=XLC (dF (c6 s)) (dF (c6 s)).length:=by
 have er:bI (stM s) ((s.size+3)/4) 0 []=dF (c6 s):=by rw[GT,←List.range_eq_range'];unfold dF;rw[fG];rfl
 have ew:IntKind.i64.wrap ((IntKind.i64.wrap (IntKind.i64.wrap ((s.size:Int)+4)-1)).tdiv 4)=(((s.size+3)/4:Nat):Int):=by
  rw[aF (i:=(s.size:Int)+4) (by omega) (by omega),aF (i:=(s.size:Int)+4-1) (by omega) (by omega),Int.tdiv_eq_ediv_of_nonneg (by omega)]
  rw[aF (by omega) (by omega)];omega
 rw[←er]
 refine aP.count (ro:=none) hT CB bE (m:=0) (id:=0) ((s.size+3)/4) (fun i m=>m.length=i) (fun i m=>ILC s m m.length i) (fun m=>XLC m m.length) (stM s) (aE fLC 0) (aG fLC 0) (fun i m=>[(2,⟨aE fLC 2,JLC s m m.length i [0,0,0,0] 0,.normal,KLC s m m.length i (gZ (ckL (c6 s) i))⟩)]) (fun i m hi hm=>aL.blk (b:=.loop (aC 2 (aB fLC))) (by kernel_rfl) (a9I s m m.length i hs (by omega)) aL.nil) (fun i m hi hm=>⟨by simp[stM,hm], ?_⟩) (fun m hm=> ?_) [] rfl
 ·have e:=a3K s m m.length i (gZ (ckL (c6 s) i))
  rw[ew,aF (i:=(i:Int)+1) (by omega) (by omega)]at e
  have e2:stM s i m=m++[gZ (ckL (c6 s) i)]:=rfl
  rw[e2,List.length_append]
  refine⟨_,_,⟨_,_,e, ?_,by simp⟩⟩
  simp only[iS,decide_true,rpS,decide_false,beq_self_eq_true,bne_self_eq_false,Bool.not_true,Bool.not_false,Bool.not_not,cond_true,cond_false,Bool.true_and,Bool.and_true,Bool.false_and,Bool.and_false,Bool.or_true,Bool.true_or,Bool.or_false,Bool.false_or,Bool.and_eq_true,Bool.not_eq_true',decide_eq_true_eq,decide_eq_false_iff_not,true_and,and_true];omega
 ·have e:=a3L s m m.length ((s.size+3)/4:Nat) [] []
  rw[ew]at e
  exact⟨_,_,⟨_,_,e,by simp,by simp⟩⟩
def SH:aO:=fun args h=>
 match args,h with
 |[.c (.str s)],[]=>
  some (.c (.sl 0 0 (dF (c6 s)).length 1 none),[.live (.ivs .i64 (dF (c6 s)))],[decide (s.size≤1048576)])
 |_,_=>none
theorem mLC:aR Tryz.prog 142 SH:=by
 intro args h res h' o he ho
 unfold SH at he
 split at he
 case h_2=>cases he
 rename_i s
 simp only[Option.some.injEq,Prod.mk.injEq]at he
 obtain⟨rfl,rfl,rfl⟩:=he
 simp only[List.mem_cons,List.not_mem_nil,or_false,forall_eq_or_imp,forall_eq,decide_eq_true_eq]at ho
 have o1:=ho
 exact bW CB (a72 s (dF (c6 s)) (dF (c6 s)).length) (by kernel_rfl) (by kernel_rfl) (by kernel_rfl) (lLC s o1) (by simp) rfl
noncomputable def mW:List aZ:=[⟨164,[],nm ST⟩,⟨142,[],SH⟩]++mV
theorem a01:aA Tryz.prog mW:=by
 refine aA.append ?_ a00
 intro e he
 simp only[List.mem_cons,List.not_mem_nil,or_false]at he
 rcases he with rfl|rfl
 ·exact mS3.ok
 ·exact mLC
theorem rG:bL Tryz.prog (aH mW):=aQ a01
end
section
theorem jC {α β:Type} {f:β→α→β} {d:α}: ∀(l:List α) (b:β),bI (fun k b=>f b (l.getD k d)) l.length 0 b=l.foldl f b:=by
 have key: ∀(l p:List α) (b:β),bI (fun k b=>f b ((p++l).getD k d)) l.length p.length b=l.foldl f b:=by
  intro l
  induction l with
  |nil=>intro p b;rfl
  |cons x l ih=>
   intro p b
   have:=ih (p++[x]) (f b x)
   rw[List.append_assoc,List.singleton_append,List.length_append]at this
   simp only[List.length_cons,bI,List.foldl_cons]
   rw[show(p++x::l).getD p.length d=x from by simp[List.getD_eq_getElem?_getD]]
   exact this
 exact fun l b=>key l [] b
theorem dC {α:Type} {l:List α} {d:α} {i:Nat} (hi:i<l.length):l.getD i d∈l:=by
 rw[List.getD_eq_getElem?_getD,List.getElem?_eq_getElem hi];exact List.getElem_mem hi
def lbJ (x:Int):Int:=IntKind.u8.wrap (IntKind.u8.wrap (IntKind.i64.wrap (x-1))+97)
def fB (o:List Int) (x:Int):List Int:=bif bif bet x 1 26 then decide ((o.length:Int)≤14)else false then o++[lbJ x]else o
def jlI (m:List (List Int)):List Int:=m.foldl (fun o r=>r.foldl fB o) []
theorem xH {o:List Int} (x:Int) (h:o.length≤15):(fB o x).length≤15:=by
 unfold fB
 cases hb:bet x 1 26 with
 |false=>rw[cond_false];exact h
 |true=>
  rw[cond_true]
  cases hd:decide ((o.length:Int)≤14)with
  |false=>exact h
  |true=>have:=of_decide_eq_true hd;simp;omega
theorem wK (r:List Int): ∀ {o:List Int},o.length≤15→(r.foldl fB o).length≤15:=by
 induction r with
 |nil=>exact fun h=>h
 |cons x r ih=>exact fun h=>ih (xH x h)
theorem PC (m:List (List Int)):(jlI m).length≤15:=by
 have: ∀(m:List (List Int)) (o:List Int),o.length≤15→(m.foldl (fun o r=>r.foldl fB o) o).length≤15:=by
  intro m
  induction m with
  |nil=>exact fun o h=>h
  |cons r m ih=>exact fun o h=>ih _ (wK r h)
 exact this m [] (Nat.zero_le _)
theorem qC (xs:List Int):(d8 xs).data.toList=xs.map fun n=>UInt8.ofNat n.toNat:=rfl
theorem l7 (s:ByteArray):s.size=s.data.toList.length:=by rw[Array.length_toList];rfl
theorem jW (xs:List Int):(d8 xs).size=xs.length:=by rw[l7,qC,List.length_map]
theorem HD {s t:ByteArray} (h:s.data.toList=t.data.toList):s=t:=by
 cases s;cases t
 simp only[ByteArray.mk.injEq]
 exact Array.ext' h
theorem pG (zs:List Int):(dF zs).length=(zs.length+3)/4:=by unfold dF;rw[List.length_map,List.length_range]
theorem xA (zs:List Int):r7 (dF zs)=true:=by
 unfold r7 dF
 rw[List.all_eq_true]
 intro x hx
 obtain⟨k,_,rfl⟩:=List.mem_map.1 hx
 rw[iS];rfl
theorem JC (s:ByteArray) (h:s.size≤1048576):fR (gN s)=true:=by
 unfold gN
 cases eS s with
 |false=>rfl
 |true=>
  rw[cond_true]
  simp only[fR,Bool.and_eq_true,rpS,decide_eq_true_eq,List.all_eq_true]
  rw[pG,fG]
  refine⟨by omega,fun x hx=> ?_⟩
  have:=List.all_eq_true.1 (xA (c6 s)) x hx
  rw[beq_iff_eq]at this;omega
noncomputable abbrev fTJ:=Tryz.f119
noncomputable def ITJ (m:List (List Int)) (o:List Int) (n:Nat) (i:Int):St:=aS fTJ.ntmps [(0,.c (.view none (.ivs .i64 m) m.length 1 none)),(4,.c (.sl 0 0 n 1 none)),(11,.c (.view none (.ivs .i64 m) m.length 1 none)),(12,.c (.int .i64 (m.length:Int))),(13,.c (.int .i64 i))] [.live (.ints .u8 o)]
noncomputable def XTJ (m:List (List Int)) (o:List Int) (n:Nat):St:=aS fTJ.ntmps [(0,.c (.view none (.ivs .i64 m) m.length 1 none)),(4,.c (.sl 0 0 n 1 none))] [.live (.ints .u8 o)]
noncomputable def JTJ (m:List (List Int)) (r o:List Int) (n:Nat) (i k:Int):St:=aS fTJ.ntmps [(0,.c (.view none (.ivs .i64 m) m.length 1 none)),(4,.c (.sl 0 0 n 1 none)),(11,.c (.view none (.ivs .i64 m) m.length 1 none)),(12,.c (.int .i64 (m.length:Int))),(13,.c (.int .i64 i)),(17,.c (.view none (.ints .i64 r) r.length 1 none)),(18,.c (.int .i64 (r.length:Int))),(19,.c (.int .i64 k))] [.live (.ints .u8 o)]
def yQ (m:List (List Int)) (r o:List Int) (n:Nat) (i k:Int):=bt5 (aM tt (aH mW) ([]) 0 100 (aC 2 (aB fTJ)) (JTJ m r o n i k)) (aK 0 (aE fTJ 2) (aG fTJ 2)) (↑r.length:Int) (r.getD k.toNat 0) (IntKind.i64.wrap (k+1)) (P:=fun q0 q1 q2 q3 q4=>q1 (q0 [(0,true),(0,true),(0,true)])=
  some (.normal,(decide (k<q2)&&(decide (0≤k)&&(decide (k<q2)&&(decide (k.toNat<r.length)&&(rp3 (bet q3 1 26) ((bif bet q3 1 26 then decide ((↑n:Int)≤14)else false)&&(decide (n=o.length)&&((decide (n+1≤274877906944))&&true)))))))),[],JTJ m r (o++[IntKind.u8.wrap (IntKind.u8.wrap (IntKind.i64.wrap (r.getD k.toNat 0-1))+97)]) (n+1) i q4)∧q1 (q0 [(0,true),(0,true),(0,false)])=
  some (.normal,(decide (k<q2)&&(decide (0≤k)&&(decide (k<q2)&&(decide (k.toNat<r.length)&&(rp3 (bet q3 1 26) ((!bif bet q3 1 26 then decide ((↑n:Int)≤14)else false)&&true)))))),[],JTJ m r (o) (n) i q4)∧q1 (q0 [(0,true),(0,false)])=
  some (.normal,(decide (k<q2)&&(decide (0≤k)&&(decide (k<q2)&&(decide (k.toNat<r.length)&&(rp3 (!bet q3 1 26) ((!bet q3 1 26)&&true)))))),[],JTJ m r (o) (n) i q4)∧q1 (q0 [(0,false)])=
  some (.exit 2,((!decide (k<q2))&&true),[],ITJ m o n i)) ⟨by kernel_rfl,by kernel_rfl,by kernel_rfl,by kernel_rfl⟩
def a0R (m:List (List Int)) (r o:List Int) (n:Nat) (i k:Int):=(yQ m r o n i k).1
def a0S (m:List (List Int)) (r o:List Int) (n:Nat) (i k:Int):=(yQ m r o n i k).2.1
def a0T (m:List (List Int)) (r o:List Int) (n:Nat) (i k:Int):=(yQ m r o n i k).2.2.1
def a0U (m:List (List Int)) (r o:List Int) (n:Nat) (i k:Int):=(yQ m r o n i k).2.2.2
theorem a4B (m:List (List Int)) (o q:List Int) (n n2:Nat) (i:Int):aK 0 (aE fTJ 0) (aG fTJ 0) (aM tt (aH mW) ([(2,⟨aE fTJ 2,JTJ m (m.getD i.toNat []) o n i 0,.normal,ITJ m q n2 i⟩)]) 0 100 (aC 0 (aB fTJ)) (ITJ m o n i) [(0,true)])=
  some (.normal,(decide (i<(↑m.length:Int))&&(decide (0≤i)&&(decide (i<(↑m.length:Int))&&((decide (i.toNat<m.length))&&true)))),[JTJ m (m.getD i.toNat []) o n i 0=JTJ m (m.getD i.toNat []) o n i 0],ITJ m (q) (n2) (IntKind.i64.wrap (i+1))):=by kernel_rfl
theorem a4C (m:List (List Int)) (o q:List Int) (n n2:Nat) (i:Int) (lcv:List (Nat×LC)):aK 0 (aE fTJ 0) (aG fTJ 0) (aM tt (aH mW) (lcv) 0 100 (aC 0 (aB fTJ)) (ITJ m o n i) [(0,false)])=
  some (.exit 0,((!decide (i<(↑m.length:Int)))&&true),[],XTJ m o n):=by kernel_rfl
def FK (m:List (List Int)) (o:List Int) (n:Nat):=bt3 (aJ tt (aH mW) ([(0,⟨aE fTJ 0,ITJ m [] 0 0,.normal,XTJ m o n⟩)]) 100 fTJ [.c (.view none (.ivs .i64 m) m.length 1 none)] []) (d8 o) ([.c (.str {data:= #[]}),.c (.bool false)]:List AV) (P:=fun q0 q1 q2=>q0 [(0,true)]=
  some ⟨.tup q2,[],(decide (n=o.length)&&(decide ((↑q1.size:Int)≤9223372036854775807)&&(rp5 (!eS q1) ((!eS q1)&&true)))),[ITJ m [] 0 0=ITJ m [] 0 0]⟩∧q0 [(0,false),(0,true)]=
  some ⟨.tup q2,[],(decide (n=o.length)&&(decide ((↑q1.size:Int)≤9223372036854775807)&&(rp2 (!!eS q1) (decide ((↑q1.size:Int)≤9223372036854775807)&&(rp2 (!!eS q1) (decide ((gN q1).length=(gN q1).length)&&(fR (gN q1)&&(!!eS q1&&((bif !eS q1 then true else !gN q1==m)&&true))))))))),[ITJ m [] 0 0=ITJ m [] 0 0]⟩∧q0 [(0,false),(0,false)]=
  some ⟨.tup [.c (.str q1),.c (.bool true)],[],(decide (n=o.length)&&(decide ((↑q1.size:Int)≤9223372036854775807)&&(rp2 (!!eS q1) (decide ((↑q1.size:Int)≤9223372036854775807)&&(rp2 (!!eS q1) (decide ((gN q1).length=(gN q1).length)&&(fR (gN q1)&&(!!eS q1&&((!bif !eS q1 then true else !gN q1==m)&&true))))))))),[ITJ m [] 0 0=ITJ m [] 0 0]⟩) ⟨by kernel_rfl,by kernel_rfl,by kernel_rfl⟩
def a7R (m:List (List Int)) (o:List Int) (n:Nat):=(FK m o n).1
def a7S (m:List (List Int)) (o:List Int) (n:Nat):=(FK m o n).2.1
def a7T (m:List (List Int)) (o:List Int) (n:Nat):=(FK m o n).2.2
noncomputable abbrev fTK:=Tryz.f116
noncomputable def ITK (m:List (List Int)) (t:ByteArray) (i:Int):St:=aS fTK.ntmps [(0,.c (.view none (.ivs .i64 m) m.length 1 none)),(4,.c (.str t)),(5,.c (.int .i64 i))] []
noncomputable def XTK (m:List (List Int)) (t:ByteArray):St:=aS fTK.ntmps [(0,.c (.view none (.ivs .i64 m) m.length 1 none)),(4,.c (.str t))] []
noncomputable def YTK (m:List (List Int)) (t:ByteArray):St:=aS fTK.ntmps [(0,.c (.view none (.ivs .i64 m) m.length 1 none)),(2,.c (.str ⟨#[]⟩)),(3,.c (.bool false)),(4,.c (.str t))] []
noncomputable def JTK (m:List (List Int)) (t:ByteArray) (i k:Int):St:=aS fTK.ntmps [(0,.c (.view none (.ivs .i64 m) m.length 1 none)),(4,.c (.str t)),(5,.c (.int .i64 i)),(6,.c (.int .i64 k))] []
def EL (m:List (List Int)) (t:ByteArray) (i k:Int):=bt5 (m.getD i.toNat []) (aM tt (aH mW) ([]) 0 100 (aC 2 (aB fTK)) (JTK m t i k)) (↑m.length:Int) (aK 0 (aE fTK 2) (aG fTK 2)) (IntKind.i64.wrap (k+1)) (P:=fun q0 q1 q2 q3 q4=>q3 (q1 [(0,true),(0,true)])=
  some (.normal,(decide (0≤i)&&(decide (i<q2)&&(decide (i.toNat<m.length)&&(decide (k<(↑q0.length:Int))&&(decide (0≤i)&&(decide (i<q2)&&(decide (i.toNat<m.length)&&(decide (0≤k)&&(decide (k<(↑q0.length:Int))&&(decide (k.toNat<q0.length)&&(decide (q0.getD k.toNat 0>0)&&(decide (0≤i)&&(decide (i<q2)&&(decide (i.toNat<m.length)&&(decide (0≤k)&&(decide (k<(↑q0.length:Int))&&(decide (k.toNat<q0.length)&&((decide (t.size+(d8 [IntKind.u8.wrap (IntKind.i64.wrap (IntKind.i64.wrap (97+q0.getD k.toNat 0)-1))]).size≤9223372036854775807))&&true)))))))))))))))))),[],JTK m (E8 t (d8 [IntKind.u8.wrap (IntKind.i64.wrap (IntKind.i64.wrap (97+q0.getD k.toNat 0)-1))])) i q4)∧q3 (q1 [(0,true),(0,false)])=
  some (.normal,(decide (0≤i)&&(decide (i<q2)&&(decide (i.toNat<m.length)&&(decide (k<(↑q0.length:Int))&&(decide (0≤i)&&(decide (i<q2)&&(decide (i.toNat<m.length)&&(decide (0≤k)&&(decide (k<(↑q0.length:Int))&&(decide (k.toNat<q0.length)&&((!decide (q0.getD k.toNat 0>0))&&true))))))))))),[],JTK m (t) i q4)∧q3 (q1 [(0,false)])=
  some (.exit 2,(decide (0≤i)&&(decide (i<q2)&&(decide (i.toNat<m.length)&&((!decide (k<(↑q0.length:Int)))&&true)))),[],ITK m t i)) ⟨by kernel_rfl,by kernel_rfl,by kernel_rfl⟩
def a0V (m:List (List Int)) (t:ByteArray) (i k:Int):=(EL m t i k).1
def a0W (m:List (List Int)) (t:ByteArray) (i k:Int):=(EL m t i k).2.1
def a0X (m:List (List Int)) (t:ByteArray) (i k:Int):=(EL m t i k).2.2
def WU (m:List (List Int)) (t q:ByteArray) (i:Int):=bt4 (aM tt (aH mW) ([(2,⟨aE fTK 2,JTK m t i 0,.normal,ITK m q i⟩)]) 0 100 (aC 0 (aB fTK)) (ITK m t i)) (↑m.length:Int) (m.getD i.toNat []) (aK 0 (aE fTK 0) (aG fTK 0)) (P:=fun q0 q1 q2 q3=>q3 (q0 [(0,true),(0,true)])=
  some (.ret,(decide (i<q1)&&(decide (0≤i)&&(decide (i<q1)&&(decide (i.toNat<m.length)&&(decide (q2.length≤274877906944)&&((!vok q2)&&true)))))),[],YTK m t)∧q3 (q0 [(0,true),(0,false)])=
  some (.normal,(decide (i<q1)&&(decide (0≤i)&&(decide (i<q1)&&(decide (i.toNat<m.length)&&(decide (q2.length≤274877906944)&&((!!vok q2)&&true)))))),[JTK m t i 0=JTK m t i 0],ITK m (q) (IntKind.i64.wrap (i+1)))) ⟨by kernel_rfl,by kernel_rfl⟩
def a4D (m:List (List Int)) (t q:ByteArray) (i:Int):=(WU m t q i).2
theorem a4E (m:List (List Int)) (t q:ByteArray) (i:Int) (lcv:List (Nat×LC)):aK 0 (aE fTK 0) (aG fTK 0) (aM tt (aH mW) (lcv) 0 100 (aC 0 (aB fTK)) (ITK m t i) [(0,false)])=
  some (.exit 0,((!decide (i<(↑m.length:Int)))&&true),[],XTK m t):=by kernel_rfl
theorem a7U (m:List (List Int)) (t:ByteArray) (lcv:List (Nat×LC)):aJ tt (aH mW) (lcv) 100 fTK [.c (.view none (.ivs .i64 m) m.length 1 none)] [] [(0,true)]=
  some ⟨.tup [.c (.str {data:= #[]}),.c (.bool false)],[],((decide ((↑m.length:Int)>14))&&true),[]⟩:=by kernel_rfl
def FL (m:List (List Int)) (t:ByteArray):=bt6 (aJ tt (aH mW) ([(0,⟨aE fTK 0,ITK m ⟨#[]⟩ 0,.normal,XTK m t⟩)]) 100 fTK [.c (.view none (.ivs .i64 m) m.length 1 none)] []) (dF (c6 t)) (↑m.length:Int) ([.c (.str {data:= #[]}),.c (.bool false)]:List AV) (↑t.size:Int) (!!eS t) (P:=fun q0 q1 q2 q3 q4 q5=>q0 [(0,false),(0,true)]=
  some ⟨.tup q3,[],(!decide (q2>14)&&(decide (q4≤9223372036854775807)&&(rp5 (!eS t) ((!eS t)&&true)))),[ITK m ⟨#[]⟩ 0=ITK m ⟨#[]⟩ 0]⟩∧q0 [(0,false),(0,false),(0,true)]=
  some ⟨.tup q3,[],(!decide (q2>14)&&(decide (q4≤9223372036854775807)&&(rp2 q5 (decide (t.size≤1048576)&&(rp2 q5 (decide (q1.length=q1.length)&&(decide (q1.length≤274877906944)&&(r7 q1&&(r7 m&&(!!eS t&&((bif !eS t then true else !dF (c6 t)==m)&&true))))))))))),[ITK m ⟨#[]⟩ 0=ITK m ⟨#[]⟩ 0]⟩∧q0 [(0,false),(0,false),(0,false)]=
  some ⟨.tup [.c (.str t),.c (.bool true)],[],(!decide (q2>14)&&(decide (q4≤9223372036854775807)&&(rp2 q5 (decide (t.size≤1048576)&&(rp2 q5 (decide (q1.length=q1.length)&&(decide (q1.length≤274877906944)&&(r7 q1&&(r7 m&&(!!eS t&&((!bif !eS t then true else !dF (c6 t)==m)&&true))))))))))),[ITK m ⟨#[]⟩ 0=ITK m ⟨#[]⟩ 0]⟩) ⟨by kernel_rfl,by kernel_rfl,by kernel_rfl⟩
def a7V (m:List (List Int)) (t:ByteArray):=(FL m t).1
def a7W (m:List (List Int)) (t:ByteArray):=(FL m t).2.1
def a7X (m:List (List Int)) (t:ByteArray):=(FL m t).2.2
theorem a8C (m:List (List Int)) (t:ByteArray):aJ tt (aH mW) ([(0,⟨aE fTK 0,ITK m ⟨#[]⟩ 0,.ret,YTK m t⟩)]) 100 fTK [.c (.view none (.ivs .i64 m) m.length 1 none)] [] [(0,false)]=
  some ⟨.tup [.c (.str {data:= #[]}),.c (.bool false)],[],((!decide ((↑m.length:Int)>14))&&true),[ITK m ⟨#[]⟩ 0=ITK m ⟨#[]⟩ 0]⟩:=by kernel_rfl
theorem a9M (m:List (List Int)) (r:List Int) (i:Int) (o:List Int) (ho:o.length≤15) (hr:r.length≤274877906944):aP none Tryz.prog 0 (.block 2 (.loop (aC 2 (aB fTJ)))) (JTJ m r o o.length i 0) fun e t=>e=.normal∧t=ITJ m (r.foldl fB o) (r.foldl fB o).length i:=by
 rw[←jC (d:=0)]
 refine aP.count (ro:=none) hT rG bE (m:=0) (id:=2) r.length (fun _ o=>o.length≤15) (fun k o=>JTJ m r o o.length i k) (fun o=>ITJ m o o.length i) (fun k o=>fB o (r.getD k 0)) (aE fTJ 2) (aG fTJ 2) (fun _ _=>[]) (fun _ _ _ _=>aL.nil) (fun k o hk ho=>⟨xH _ ho, ?_⟩) (fun o _=>⟨_,_,⟨_,_,a0U m r o o.length i r.length,by simp,by simp⟩⟩) o ho
 unfold fB
 cases hb:bet (r.getD k 0) 1 26 with
 |false=>
  have e:=a0T m r o o.length i k
  rw[aF (i:=(k:Int)+1) (by omega) (by omega),Int.toNat_natCast]at e
  rw[cond_false,cond_false]
  exact⟨_,_,⟨_,_,e,by simp only[hb,decide_true,rpS,decide_false,beq_self_eq_true,bne_self_eq_false,Bool.not_true,Bool.not_false,Bool.not_not,cond_true,cond_false,Bool.true_and,Bool.and_true,Bool.false_and,Bool.and_false,Bool.or_true,Bool.true_or,Bool.or_false,Bool.false_or,Bool.and_eq_true,Bool.not_eq_true',decide_eq_true_eq,decide_eq_false_iff_not,true_and,and_true];omega,by simp⟩⟩
 |true=>
  rw[cond_true]
  cases hd:decide ((o.length:Int)≤14)with
  |false=>
   have e:=a0S m r o o.length i k
   rw[aF (i:=(k:Int)+1) (by omega) (by omega),Int.toNat_natCast]at e
   rw[cond_false]
   exact⟨_,_,⟨_,_,e,by simp only[hb,hd,decide_true,rpS,decide_false,beq_self_eq_true,bne_self_eq_false,Bool.not_true,Bool.not_false,Bool.not_not,cond_true,cond_false,Bool.true_and,Bool.and_true,Bool.false_and,Bool.and_false,Bool.or_true,Bool.true_or,Bool.or_false,Bool.false_or,Bool.and_eq_true,Bool.not_eq_true',decide_eq_true_eq,decide_eq_false_iff_not,true_and,and_true];omega,by simp⟩⟩
  |true=>
   have e:=a0R m r o o.length i k
   rw[aF (i:=(k:Int)+1) (by omega) (by omega),Int.toNat_natCast]at e
   rw[cond_true,List.length_append]
   exact⟨_,_,⟨_,_,e,by simp only[hb,hd,decide_true,rpS,decide_false,beq_self_eq_true,bne_self_eq_false,Bool.not_true,Bool.not_false,Bool.not_not,cond_true,cond_false,Bool.true_and,Bool.and_true,Bool.false_and,Bool.and_false,Bool.or_true,Bool.true_or,Bool.or_false,Bool.false_or,Bool.and_eq_true,Bool.not_eq_true',decide_eq_true_eq,decide_eq_false_iff_not,true_and,and_true];omega,by simp⟩⟩
theorem lTJ (m:List (List Int)) (hn:m.length≤274877906944) (hr: ∀x∈m,x.length≤274877906944):aP none Tryz.prog 0 (.block 0 (.loop (aC 0 (aB fTJ)))) (ITJ m [] 0 0) fun e t=>e=.normal∧t=XTJ m (jlI m) (jlI m).length:=by
 unfold jlI
 rw[←jC (d:=[])]
 refine aP.count (ro:=none) hT rG bE (m:=0) (id:=0) m.length (fun _ o=>o.length≤15) (fun i o=>ITJ m o o.length i) (fun o=>XTJ m o o.length) (fun i o=>(m.getD i []).foldl fB o) (aE fTJ 0) (aG fTJ 0) (fun i o=>[(2,⟨aE fTJ 2,JTJ m (m.getD i []) o o.length i 0,.normal,ITJ m ((m.getD i []).foldl fB o) ((m.getD i []).foldl fB o).length i⟩)]) (fun i o hi ho=>aL.blk (b:=.loop (aC 2 (aB fTJ))) (by kernel_rfl) (a9M m (m.getD i []) i o ho (hr _ (dC hi))) aL.nil) (fun i o hi ho=>⟨wK _ ho, ?_⟩) (fun o _=>⟨_,_,⟨_,_,a4C m o [] o.length 0 m.length [],by simp,by simp⟩⟩) [] (Nat.zero_le _)
 have e:=a4B m o ((m.getD i []).foldl fB o) o.length ((m.getD i []).foldl fB o).length i
 rw[aF (i:=(i:Int)+1) (by omega) (by omega),Int.toNat_natCast]at e
 exact⟨_,_,⟨_,_,e,by simp only[decide_true,rpS,decide_false,beq_self_eq_true,bne_self_eq_false,Bool.not_true,Bool.not_false,Bool.not_not,cond_true,cond_false,Bool.true_and,Bool.and_true,Bool.false_and,Bool.and_false,Bool.or_true,Bool.true_or,Bool.or_false,Bool.false_or,Bool.and_eq_true,Bool.not_eq_true',decide_eq_true_eq,decide_eq_false_iff_not,true_and,and_true];omega,by simp⟩⟩
def jtB (m:List (List Int)):Bool:=eS (d8 (jlI m))&&(gN (d8 (jlI m))==m)
def SZ:aO:=fun args h=>
 match args,h with
 |[.c (.view _ (.ivs .i64 m) n1 1 _)],[]=>
  some (.tup [.c (.str (bif jtB m then d8 (jlI m)else⟨#[]⟩)),.c (.bool (jtB m))],[],[fR m])
 |_,_=>none
theorem mTJ:aT Tryz.prog 119 SZ:=by
 intro args h res h' o hnorm he ho
 unfold SZ at he
 split at he
 case h_2=>cases he
 rename_i nl m n1 cap
 simp only[Option.some.injEq,Prod.mk.injEq]at he
 obtain⟨rfl,rfl,rfl⟩:=he
 simp only[List.mem_cons,List.not_mem_nil,or_false,forall_eq_or_imp,forall_eq,decide_eq_true_eq]at ho
 have o1:=ho
 simp only[b8,AV.norm,bA,aI.norm,Con.size,List.cons.injEq,AV.c.injEq,AV.agg.injEq,aI.view.injEq,aN,true_and,and_true]at hnorm
 obtain⟨rfl,rfl,rfl⟩:=hnorm
 obtain⟨o1,hr⟩:=kJ o1
 have g:=lTJ m o1 hr
 have hl:=PC m
 have hz:=jW (jlI m)
 have hz1:decide (((d8 (jlI m)).size:Int)≤9223372036854775807)=true:=decide_eq_true (by omega)
 have hz2:=JC (d8 (jlI m)) (by omega)
 unfold jtB
 cases h1:eS (d8 (jlI m))with
 |false=>exact bW rG (a7R m (jlI m) (jlI m).length) (by kernel_rfl) (by kernel_rfl) (by kernel_rfl) g (by simp) (by simp only[h1,hz1,decide_true,rpS,decide_false,beq_self_eq_true,bne_self_eq_false,Bool.not_true,Bool.not_false,Bool.not_not,cond_true,cond_false,Bool.true_and,Bool.and_true,Bool.false_and,Bool.and_false,Bool.or_true,Bool.true_or,Bool.or_false,Bool.false_or,Bool.and_eq_true,Bool.not_eq_true',decide_eq_true_eq,decide_eq_false_iff_not,true_and,and_true])
 |true=>
  cases h2:gN (d8 (jlI m))==m with
  |false=>exact bW rG (a7S m (jlI m) (jlI m).length) (by kernel_rfl) (by kernel_rfl) (by kernel_rfl) g (by simp) (by simp only[h1,h2,hz1,hz2,decide_true,rpS,decide_false,beq_self_eq_true,bne_self_eq_false,Bool.not_true,Bool.not_false,Bool.not_not,cond_true,cond_false,Bool.true_and,Bool.and_true,Bool.false_and,Bool.and_false,Bool.or_true,Bool.true_or,Bool.or_false,Bool.false_or,Bool.and_eq_true,Bool.not_eq_true',decide_eq_true_eq,decide_eq_false_iff_not,true_and,and_true])
  |true=>exact bW rG (a7T m (jlI m) (jlI m).length) (by kernel_rfl) (by kernel_rfl) (by kernel_rfl) g (by simp) (by simp only[h1,h2,hz1,hz2,decide_true,rpS,decide_false,beq_self_eq_true,bne_self_eq_false,Bool.not_true,Bool.not_false,Bool.not_not,cond_true,cond_false,Bool.true_and,Bool.and_true,Bool.false_and,Bool.and_false,Bool.or_true,Bool.true_or,Bool.or_false,Bool.false_or,Bool.and_eq_true,Bool.not_eq_true',decide_eq_true_eq,decide_eq_false_iff_not,true_and,and_true])
def lbK (x:Int):Int:=IntKind.u8.wrap (IntKind.i64.wrap (IntKind.i64.wrap (97+x)-1))
def dZ (t:ByteArray) (x:Int):ByteArray:=bif decide (x>0)then E8 t (d8 [lbK x])else t
def jkT (m:List (List Int)):ByteArray:=m.foldl (fun t r=>r.foldl dZ t) ⟨#[]⟩
theorem LG (s t:ByteArray):(E8 s t).size=s.size+t.size:=by
 rw[l7,l7,l7];simp[E8]
theorem v4 (t:ByteArray) (x:Int):(dZ t x).size≤t.size+1:=by
 unfold dZ
 cases decide (x>0)with
 |false=>rw[cond_false];omega
 |true=>rw[cond_true,LG,jW];simp
theorem tM (r:List Int): ∀(t:ByteArray),(r.foldl dZ t).size≤t.size+r.length:=by
 induction r with
 |nil=>intro t;simp
 |cons x r ih=>
  intro t
  have h1:=ih (dZ t x)
  have h2:=v4 t x
  rw[List.foldl_cons,List.length_cons];omega
theorem rZ {r:List Int} (h:vok r=true):r.length=4:=by
 unfold vok at h
 rw[Bool.and_eq_true]at h
 have:=of_decide_eq_true h.2;omega
theorem a9N (m:List (List Int)) (i:Nat) (hi:i<m.length) (hm:m.length≤1024) (t:ByteArray) (ht:t.size≤4*i) (hr:(m.getD i []).length=4):aP none Tryz.prog 0 (.block 2 (.loop (aC 2 (aB fTK)))) (JTK m t i 0) fun e s=>e=.normal∧s=ITK m ((m.getD i []).foldl dZ t) i:=by
 rw[←jC (d:=0)]
 refine aP.count (ro:=none) hT rG bE (m:=0) (id:=2) (m.getD i []).length (fun k t=>t.size≤4*i+k) (fun k t=>JTK m t i k) (fun t=>ITK m t i) (fun k t=>dZ t ((m.getD i []).getD k 0)) (aE fTK 2) (aG fTK 2) (fun _ _=>[]) (fun _ _ _ _=>aL.nil) (fun k t hk ht=>⟨by have:=v4 t ((m.getD i []).getD k 0);omega, ?_⟩) (fun t _=> ?_) t ht
 ·unfold dZ
  cases hb:decide ((m.getD i []).getD k 0>0)with
  |false=>
   have e:=a0W m t i k
   rw[aF (i:=(k:Int)+1) (by omega) (by omega),Int.toNat_natCast,Int.toNat_natCast]at e
   rw[cond_false]
   exact⟨_,_,⟨_,_,e,by simp only[hb,decide_true,rpS,decide_false,beq_self_eq_true,bne_self_eq_false,Bool.not_true,Bool.not_false,Bool.not_not,cond_true,cond_false,Bool.true_and,Bool.and_true,Bool.false_and,Bool.and_false,Bool.or_true,Bool.true_or,Bool.or_false,Bool.false_or,Bool.and_eq_true,Bool.not_eq_true',decide_eq_true_eq,decide_eq_false_iff_not,true_and,and_true];omega,by simp⟩⟩
  |true=>
   have e:=a0V m t i k
   rw[aF (i:=(k:Int)+1) (by omega) (by omega),Int.toNat_natCast,Int.toNat_natCast]at e
   rw[cond_true]
   refine⟨_,_,⟨_,_,e, ?_,by simp⟩⟩
   have hz:=jW [lbK ((m.getD i []).getD k 0)]
   unfold lbK at hz
   rw[hz]
   simp only[hb,List.length_cons,List.length_nil,decide_true,rpS,decide_false,beq_self_eq_true,bne_self_eq_false,Bool.not_true,Bool.not_false,Bool.not_not,cond_true,cond_false,Bool.true_and,Bool.and_true,Bool.false_and,Bool.and_false,Bool.or_true,Bool.true_or,Bool.or_false,Bool.false_or,Bool.and_eq_true,Bool.not_eq_true',decide_eq_true_eq,decide_eq_false_iff_not,true_and,and_true];omega
 ·have e:=a0X m t i (m.getD i []).length
  rw[Int.toNat_natCast]at e
  exact⟨_,_,⟨_,_,e,by simp;omega,by simp⟩⟩
theorem sTK (m:List (List Int)) (t:ByteArray) (i:Int):aK 0 (aE fTK 0) (aG fTK 0) (aM tt (aH mW) [] 0 100 (aC 0 (aB fTK)) (ITK m t i) [(0,true),(0,true)])=
  some (.ret,(decide (i<(m.length:Int))&&(decide (0≤i)&&(decide (i<(m.length:Int))&&(decide (i.toNat<m.length)&&(decide ((m.getD i.toNat []).length≤274877906944)&&((!vok (m.getD i.toNat []))&&true)))))),[],YTK m t):=by kernel_rfl
theorem lTK (m:List (List Int)) (hm:m.length≤14) (hr: ∀x∈m,x.length≤274877906944):(m.all vok=true→aP none Tryz.prog 0 (.block 0 (.loop (aC 0 (aB fTK)))) (ITK m ⟨#[]⟩ 0) fun e s=>e=.normal∧s=XTK m (jkT m))∧
  (m.all vok=false→ ∃t,aP none Tryz.prog 0 (.block 0 (.loop (aC 0 (aB fTK)))) (ITK m ⟨#[]⟩ 0) fun e s=>e=.ret∧s=YTK m t):=by
 have g:=aP.countE (ro:=none) hT rG bE (m:=0) (id:=0) (body:=aC 0 (aB fTK)) (β:=ByteArray) (γ:=ByteArray) m.length (fun i t=>t.size≤4*i) (fun i t=>ITK m t i) (fun t=>XTK m t) (fun t=>YTK m t) .ret (.inr rfl)
  (fun i t=>bif vok (m.getD i [])then .inl ((m.getD i []).foldl dZ t)else .inr t) (aE fTK 0) (aG fTK 0) (fun i t=>bif vok (m.getD i [])then [(2,⟨aE fTK 2,JTK m t i 0,.normal,ITK m ((m.getD i []).foldl dZ t) i⟩)]else []) (fun i t hi ht=> ?_) (fun i t hi ht=> ?_) (fun t _=>⟨_,_,⟨_,_,a4E m t ⟨#[]⟩ m.length [],by simp,by simp⟩⟩) ⟨#[]⟩ (Nat.zero_le _)
 ·have run: ∀f i t,i+f=m.length→(match cG (β:=ByteArray) (γ:=ByteArray) (fun i t=>bif vok (m.getD i [])then .inl ((m.getD i []).foldl dZ t)else .inr t) f i t with
   |.inl b=>(∀j,i≤j→j<i+f→vok (m.getD j [])=true)∧b=bI (fun i t=>(m.getD i []).foldl dZ t) f i t
   |.inr _=> ∃j,i≤j∧j<i+f∧vok (m.getD j [])=false):=by
   intro f
   induction f with
   |zero=>intro i t _;exact⟨fun j h1 h2=>by omega,rfl⟩
   |succ f ih=>
    intro i t hf
    simp only[cG,bI]
    cases hv:vok (m.getD i [])with
    |false=>exact⟨i,Nat.le_refl _,by omega,hv⟩
    |true=>
     simp only[cond_true]
     have:=ih (i+1) ((m.getD i []).foldl dZ t) (by omega)
     split<;>rename_i hq<;>rw[hq]at this
     ·exact⟨fun j h1 h2=>by
       by_cases e:j=i
       ·subst e;exact hv
       ·exact this.1 j (by omega) (by omega),this.2⟩
     ·obtain⟨j,h1,h2,h3⟩:=this
      exact⟨j,by omega,by omega,h3⟩
  have hrun:=run m.length 0 ⟨#[]⟩ (by omega)
  refine⟨fun ha=> ?_,fun ha=> ?_⟩
  ·have hall:=List.all_eq_true.1 ha
   split at hrun<;>rename_i hq<;>rw[hq]at g
   ·have e:bI (fun i t=>(m.getD i []).foldl dZ t) m.length 0 ⟨#[]⟩=jkT m:=jC (f:=fun(t:ByteArray) (r:List Int)=>r.foldl dZ t) m ⟨#[]⟩
    rw[hrun.2,e]at g;exact g
   ·obtain⟨j,_,h2,h3⟩:=hrun
    rw[hall _ (dC (by omega))]at h3;cases h3
  ·split at hrun<;>rename_i hq<;>rw[hq]at g
   ·exfalso
    have:m.all vok=true:=List.all_eq_true.2 fun x hx=>by
     obtain⟨j,hj,rfl⟩:=List.getElem_of_mem hx
     have:=hrun.1 j (Nat.zero_le _) (by omega)
     rwa[List.getD_eq_getElem?_getD,List.getElem?_eq_getElem hj]at this
    rw[ha]at this;cases this
   ·exact⟨_,g⟩
 ·cases hv:vok (m.getD i [])with
  |false=>exact aL.nil
  |true=>exact aL.blk (b:=.loop (aC 2 (aB fTK))) (by kernel_rfl) (a9N m i hi (by omega) t ht (rZ hv)) aL.nil
 ·have hl:decide ((m.getD i []).length≤274877906944)=true:=decide_eq_true (hr _ (dC hi))
  cases hv:vok (m.getD i [])with
  |false=>
   have e:=sTK m t i
   rw[Int.toNat_natCast]at e
   exact .inr ⟨t,rfl,_,_,⟨_,_,e,by simp only[hv,hl,decide_true,rpS,decide_false,beq_self_eq_true,bne_self_eq_false,Bool.not_true,Bool.not_false,Bool.not_not,cond_true,cond_false,Bool.true_and,Bool.and_true,Bool.false_and,Bool.and_false,Bool.or_true,Bool.true_or,Bool.or_false,Bool.false_or,Bool.and_eq_true,Bool.not_eq_true',decide_eq_true_eq,decide_eq_false_iff_not,true_and,and_true];omega,by simp⟩⟩
  |true=>
   have e:=a4D m t ((m.getD i []).foldl dZ t) i
   rw[aF (i:=(i:Int)+1) (by omega) (by omega),Int.toNat_natCast]at e
   have hs:=tM (m.getD i []) t
   have:=rZ hv
   exact .inl ⟨_,rfl,by omega,_,_,⟨_,_,e,by simp only[hv,hl,decide_true,rpS,decide_false,beq_self_eq_true,bne_self_eq_false,Bool.not_true,Bool.not_false,Bool.not_not,cond_true,cond_false,Bool.true_and,Bool.and_true,Bool.false_and,Bool.and_false,Bool.or_true,Bool.true_or,Bool.or_false,Bool.false_or,Bool.and_eq_true,Bool.not_eq_true',decide_eq_true_eq,decide_eq_false_iff_not,true_and,and_true];omega,by simp⟩⟩
def jkB (m:List (List Int)):Bool:= !(decide ((m.length:Int)>14))&&(m.all vok&&(eS (jkT m)&&(dF (c6 (jkT m))==m)))
theorem M7 (m:List (List Int)) (h:m.all vok=true):(jkT m).size≤4*m.length:=by
 have: ∀(m:List (List Int)) (t:ByteArray),m.all vok=true→(m.foldl (fun t r=>r.foldl dZ t) t).size≤t.size+4*m.length:=by
  intro m
  induction m with
  |nil=>intro t _;simp
  |cons r m ih=>
   intro t ha
   rw[List.all_cons,Bool.and_eq_true]at ha
   have h1:=ih (r.foldl dZ t) ha.2
   have h2:=tM r t
   have h3:=rZ ha.1
   rw[List.foldl_cons,List.length_cons];omega
 have:=this m ⟨#[]⟩ h
 have e:(⟨#[]⟩:ByteArray).size=0:=rfl
 unfold jkT;omega
def T0:aO:=fun args h=>
 match args,h with
 |[.c (.view _ (.ivs .i64 m) n1 1 _)],[]=>
  some (.tup [.c (.str (bif jkB m then jkT m else⟨#[]⟩)),.c (.bool (jkB m))],[],[fR m])
 |_,_=>none
theorem mTK:aT Tryz.prog 116 T0:=by
 intro args h res h' o hnorm he ho
 unfold T0 at he
 split at he
 case h_2=>cases he
 rename_i nl m n1 cap
 simp only[Option.some.injEq,Prod.mk.injEq]at he
 obtain⟨rfl,rfl,rfl⟩:=he
 simp only[List.mem_cons,List.not_mem_nil,or_false,forall_eq_or_imp,forall_eq,decide_eq_true_eq]at ho
 have o1:=ho
 simp only[b8,AV.norm,bA,aI.norm,Con.size,List.cons.injEq,AV.c.injEq,AV.agg.injEq,aI.view.injEq,aN,true_and,and_true]at hnorm
 obtain⟨rfl,rfl,rfl⟩:=hnorm
 obtain⟨o1,hr⟩:=kJ o1
 unfold jkB
 cases h0:decide ((m.length:Int)>14)with
 |true=>exact cU rG (a7U m ⟨#[]⟩ []) (by kernel_rfl) (by kernel_rfl) rfl (by rw[h0];rfl)
 |false=>
  obtain⟨ga,gb⟩:=lTK m (by have:=of_decide_eq_false h0;omega) hr
  cases ha:m.all vok with
  |false=>
   obtain⟨t,g⟩:=gb ha
   exact bW rG (a8C m t) (by kernel_rfl) (by kernel_rfl) (by kernel_rfl) g (by simp) (by rw[h0];rfl)
  |true=>
   have g:=ga ha
   have hz:=M7 m ha
   have hz1:decide (((jkT m).size:Int)≤9223372036854775807)=true:=decide_eq_true (by have:=of_decide_eq_false h0;omega)
   have hz2:decide ((jkT m).size≤1048576)=true:=decide_eq_true (by have:=of_decide_eq_false h0;omega)
   have hz3:decide ((dF (c6 (jkT m))).length≤274877906944)=true:=decide_eq_true (by rw[pG,fG];have:=of_decide_eq_false h0;omega)
   have hz4:=xA (c6 (jkT m))
   have hz5:r7 m=true:=List.all_eq_true.2 fun x hx=>by have:=rZ (List.all_eq_true.1 ha x hx);rw[this];rfl
   cases h1:eS (jkT m)with
   |false=>exact bW rG (a7V m (jkT m)) (by kernel_rfl) (by kernel_rfl) (by kernel_rfl) g (by simp) (by simp only[h0,h1,hz1,decide_true,rpS,decide_false,beq_self_eq_true,bne_self_eq_false,Bool.not_true,Bool.not_false,Bool.not_not,cond_true,cond_false,Bool.true_and,Bool.and_true,Bool.false_and,Bool.and_false,Bool.or_true,Bool.true_or,Bool.or_false,Bool.false_or,Bool.and_eq_true,Bool.not_eq_true',decide_eq_true_eq,decide_eq_false_iff_not,true_and,and_true])
   |true=>
    cases h2:dF (c6 (jkT m))==m with
    |false=>exact bW rG (a7W m (jkT m)) (by kernel_rfl) (by kernel_rfl) (by kernel_rfl) g (by simp) (by simp only[h0,h1,h2,hz1,hz2,hz3,hz4,hz5,decide_true,rpS,decide_false,beq_self_eq_true,bne_self_eq_false,Bool.not_true,Bool.not_false,Bool.not_not,cond_true,cond_false,Bool.true_and,Bool.and_true,Bool.false_and,Bool.and_false,Bool.or_true,Bool.true_or,Bool.or_false,Bool.false_or,Bool.and_eq_true,Bool.not_eq_true',decide_eq_true_eq,decide_eq_false_iff_not,true_and,and_true])
    |true=>exact bW rG (a7X m (jkT m)) (by kernel_rfl) (by kernel_rfl) (by kernel_rfl) g (by simp) (by simp only[h0,h1,h2,hz1,hz2,hz3,hz4,hz5,decide_true,rpS,decide_false,beq_self_eq_true,bne_self_eq_false,Bool.not_true,Bool.not_false,Bool.not_not,cond_true,cond_false,Bool.true_and,Bool.and_true,Bool.false_and,Bool.and_false,Bool.or_true,Bool.true_or,Bool.or_false,Bool.false_or,Bool.and_eq_true,Bool.not_eq_true',decide_eq_true_eq,decide_eq_false_iff_not,true_and,and_true])
noncomputable def ZO:List aZ:=[⟨119,[],nm SZ⟩,⟨116,[],nm T0⟩]++mW
theorem a8O:aA Tryz.prog ZO:=by
 refine aA.append ?_ a01
 intro e he
 simp only[List.mem_cons,List.not_mem_nil,or_false]at he
 rcases he with rfl|rfl
 ·exact mTJ.ok
 ·exact mTK.ok
end
section
theorem s0 {i:Int} (h0:0≤i) (h1:i<256):IntKind.u8.wrap i=i:=by
 simp[IntKind.wrap,IntKind.bits,IntKind.signed]
 omega
theorem yW {z:Int} (h:97≤z∧z≤122):pB z=z-96:=by
 unfold pB
 rw[s0 (by omega) (by omega),aF (i:=z-97) (by omega) (by omega),aF (by omega) (by omega)];omega
theorem JD {o:List Int} {z:Int} (h:97≤z∧z≤122) (ho:o.length≤14):fB o (pB z)=o++[z]:=by
 have hb:bet (z-96) 1 26=true:=bQ.2 (by omega)
 unfold fB lbJ
 rw[yW h,hb,cond_true,decide_eq_true (by omega:(o.length:Int)≤14),cond_true,aF (by omega) (by omega),s0 (i:=z-96-1) (by omega) (by omega),s0 (by omega) (by omega)]
 congr 2;omega
theorem F8 (o:List Int):fB o 0=o:=rfl
theorem F9 (t:ByteArray):dZ t 0=t:=rfl
theorem NA (s t:ByteArray):c6 (E8 s t)=c6 s++c6 t:=by simp[c6,E8]
theorem v6 {xs:List Int} (h: ∀x∈xs,0≤x∧x<256):c6 (d8 xs)=xs:=by
 unfold c6
 rw[qC,List.map_map]
 conv=>rhs;rw[←List.map_id xs]
 refine List.map_congr_left fun x hx=> ?_
 obtain⟨h1,h2⟩:=h x hx
 show(((UInt8.ofNat x.toNat).toNat:Nat):Int)=x
 rw[UInt8.toNat_ofNat']
 omega
theorem C9 {s t:ByteArray} (h:c6 s=c6 t):s=t:=by
 refine HD ((List.map_inj_right fun a b hab=> ?_).1 h)
 have:a.toNat=b.toNat:=by exact_mod_cast hab
 exact UInt8.toNat_inj.1 this
theorem R0 (s:ByteArray): ∀x∈c6 s,0≤x∧x<256:=fun x hx=>by
 obtain⟨b,_,rfl⟩:=List.mem_map.1 hx
 have:=b.toNat_lt
 omega
theorem JE {t:ByteArray} {z:Int} (h:97≤z∧z≤122):c6 (dZ t (pB z))=c6 t++[z]:=by
 unfold dZ lbK
 rw[yW h,decide_eq_true (by omega:z-96>0),cond_true,NA,aF (i:=97+(z-96)) (by omega) (by omega),aF (by omega) (by omega),s0 (by omega) (by omega),v6]
 ·congr 2;omega
 ·intro x hx
  rw[List.mem_singleton]at hx;omega
def Lts (zs:List Int):Prop:= ∀z∈zs,97≤z∧z≤122
theorem R9 {t:ByteArray} (h:eS t=true):Lts (c6 t)∧1≤(c6 t).length∧(c6 t).length≤14:=by
 unfold eS at h
 rw[Bool.and_eq_true,cF,bQ]at h
 rw[fG]
 refine⟨fun z hz=> ?_,by omega,by omega⟩
 obtain⟨i,hi,rfl⟩:=List.getElem_of_mem hz
 have h1:=(yU t i).1 (h.1 i (Nat.zero_le _) (by rw[fG]at hi;omega))
 have h2:=C8 t i
 rw[List.getD_eq_getElem?_getD,List.getElem?_eq_getElem hi,Option.getD_some]at h2
 rw[h2];exact h1
theorem zK {ck:List Int} (h:ck.length≤4):gZ ck=ck.map pB++List.replicate (4-ck.length) 0:=by
 obtain⟨b1,b2⟩:=zL (fun _=>true) (fun k=>pB (ck.getD k 0)) ck.length h
 refine tB (d:=0) (by rw[iS];simp;omega) fun q hq=> ?_
 rw[iS]at hq
 refine(b2 q hq).trans ?_
 rw[List.getD_eq_getElem?_getD (l:=ck.map pB++_),List.getElem?_append,List.length_map]
 by_cases e:q<ck.length
 ·rw[if_pos e,List.getElem?_map,List.getElem?_eq_getElem e];simp[e]
 ·rw[if_neg e,List.getElem?_replicate];simp[e];split<;>rfl
theorem wL: ∀ {zs:List Int} {o:List Int},Lts zs→o.length+zs.length≤15→(zs.map pB).foldl fB o=o++zs
 |[],o,_,_=>by simp
 |z::zs,o,h,hl=>by
  simp only[List.length_cons]at hl
  rw[List.map_cons,List.foldl_cons,JD (h z List.mem_cons_self) (by omega),wL (fun y hy=>h y (List.mem_cons_of_mem _ hy)) (by simp;omega)]
  simp
theorem wM: ∀ {zs:List Int} {t:ByteArray},Lts zs→c6 ((zs.map pB).foldl dZ t)=c6 t++zs
 |[],t,_=>by simp
 |z::zs,t,h=>by
  rw[List.map_cons,List.foldl_cons,wM (fun y hy=>h y (List.mem_cons_of_mem _ hy)),JE (h z List.mem_cons_self)]
  simp
theorem tK (o:List Int): ∀n,(List.replicate n 0).foldl fB o=o
 |0=>rfl
 |n+1=>by rw[List.replicate_succ,List.foldl_cons,F8,tK o n]
theorem tN (t:ByteArray): ∀n,(List.replicate n 0).foldl dZ t=t
 |0=>rfl
 |n+1=>by rw[List.replicate_succ,List.foldl_cons,F9,tN t n]
theorem yI {zs:List Int} (h:Lts zs) (k:Nat):Lts (ckL zs k):=fun z hz=>h z (List.mem_of_mem_drop (List.mem_of_mem_take hz))
theorem EA (zs:List Int) (k:Nat):(ckL zs k).length≤4:=by rw[rN];omega
theorem zQ (zs:List Int) (k:Nat):zs.take (4*k)++ckL zs k=zs.take (4*(k+1)):=by
 unfold ckL
 rw[show 4*(k+1)=4*k+4 from by omega,List.take_add]
theorem tJ {zs:List Int} (h:Lts zs) (hl:zs.length≤14): ∀K,(List.range K).foldl (fun o k=>(gZ (ckL zs k)).foldl fB o) []=zs.take (4*K)
 |0=>by simp
 |K+1=>by
  rw[List.range_succ,List.foldl_append,tJ h hl K,List.foldl_cons,List.foldl_nil,zK (EA zs K),List.foldl_append,wL (yI h K),tK,zQ]
  have h1:=congrArg List.length (zQ zs K)
  rw[List.length_append]at h1
  have h2:(zs.take (4*(K+1))).length≤zs.length:=by rw[List.length_take];omega
  omega
theorem tL {zs:List Int} (h:Lts zs): ∀K,c6 ((List.range K).foldl (fun t k=>(gZ (ckL zs k)).foldl dZ t) ⟨#[]⟩)=zs.take (4*K)
 |0=>by simp[c6]
 |K+1=>by
  rw[List.range_succ,List.foldl_append,List.foldl_cons,List.foldl_nil,zK (EA zs K),List.foldl_append,tN,wM (yI h K),tL h K,zQ]
theorem N0 {ck:List Int} (h:Lts ck) (hl:ck.length≤4):vok (gZ ck)=true:=by
 unfold vok
 rw[Bool.and_eq_true,iS]
 refine⟨?_,rfl⟩
 unfold aD
 rw[zK hl,List.all_eq_true]
 intro x hx
 rcases List.mem_append.1 hx with hx|hx
 ·obtain⟨z,hz,rfl⟩:=List.mem_map.1 hx
  have:=h z hz
  rw[yW this]
  simp only[fok,Bool.and_eq_true,rpS,decide_eq_true_eq];omega
 ·rw[List.eq_of_mem_replicate hx];rfl
theorem AX {t:ByteArray} (h:eS t=true):gN t=dF (c6 t)∧d8 (jlI (gN t))=t∧jkT (gN t)=t∧(gN t).all vok=true∧(gN t).length≤14:=by
 obtain⟨h1,h2,h3⟩:=R9 h
 have hc:gN t=dF (c6 t):=by unfold gN;rw[h];rfl
 have ht:(c6 t).take (4*(((c6 t).length+3)/4))=c6 t:=List.take_of_length_le (by omega)
 rw[hc]
 refine⟨rfl, ?_, ?_, ?_, ?_⟩
 ·have:jlI (dF (c6 t))=c6 t:=by
   unfold jlI dF
   rw[List.foldl_map,tJ h1 h3,ht]
  rw[this]
  exact C9 (v6 (R0 t))
 ·refine C9 ?_
  unfold jkT dF
  rw[List.foldl_map,tL h1,ht]
 ·unfold dF
  rw[List.all_eq_true]
  intro x hx
  obtain⟨k,_,rfl⟩:=List.mem_map.1 hx
  exact N0 (yI h1 k) (EA _ k)
 ·rw[pG];omega
theorem PD (m:List (List Int)):jtB m=jkB m∧(jtB m=true→d8 (jlI m)=jkT m):=by
 have k1:jtB m=true→jkB m=true∧d8 (jlI m)=jkT m:=fun h=>by
  unfold jtB at h
  rw[Bool.and_eq_true,beq_iff_eq]at h
  obtain⟨h1,h2⟩:=h
  obtain⟨c1,c2,c3,c4,c5⟩:=AX h1
  rw[h2]at c1 c2 c3 c4 c5
  refine⟨?_,c3.symm⟩
  unfold jkB
  rw[c3,c4,h1,decide_eq_false (by omega)]
  simpa using c1.symm
 have k2:jkB m=true→jtB m=true:=fun h=>by
  unfold jkB at h
  simp only[Bool.and_eq_true,rpS,beq_iff_eq]at h
  obtain⟨h1,h2,h3,h4⟩:=h
  obtain⟨c1,c2,c3,c4,c5⟩:=AX h3
  have c1:gN (jkT m)=m:=c1.trans h4
  rw[c1]at c2
  unfold jtB
  rw[c2,h3,c1]
  simp
 refine⟨?_,fun h=>(k1 h).2⟩
 rw[Bool.eq_iff_iff]
 exact⟨fun h=>(k1 h).1,k2⟩
end
section
def PK.rD (x:PK):List Int:=krD x.k x.a x.b x.c x.on x.kd x.d x.vs
def PK.rB (x:PK):Bool:=krB x.k x.a x.b x.c x.on x.kd x.d x.vs
theorem PK.kok {x:PK} (h:x.ok=true):bT x.k x.a x.b x.c x.on x.kd x.d x.vs=true:=h
theorem a3F {x:PK} (h:x.ok=true):x.rB=true:=by
 unfold PK.rB krB
 rw[x.kok h,cond_true]
 cases ho:x.on with
 |true=>rfl
 |false=>rw[cond_false];exact(x.offK h ho).rd
theorem WJ {x:PK} (h:x.ok=true) (ho:x.on=false):x.rD=rdD x.k x.a x.b x.c:=by
 unfold PK.rD krD
 rw[x.kok h,cond_true,ho,cond_false]
end
section
theorem AL {α:Type} {p:α→Bool} {d:α} {l:List α}:cL (fun i=>p (l.getD i d)) l.length 0=l.all p:=by
 rw[Bool.eq_iff_iff,cF,List.all_eq_true]
 constructor
 ·intro h x hx
  obtain⟨i,hi,rfl⟩:=List.getElem_of_mem hx
  have:=h i (Nat.zero_le _) (by omega)
  rwa[List.getD_eq_getElem?_getD,List.getElem?_eq_getElem hi]at this
 ·exact fun h i _ hi=>h _ (dC (by omega))
theorem N4 {α β:Type} {p:α→Bool} {g:α→β} {d:α} (l:List α):match cG (β:=List β) (γ:=List β) (fun i o=>bif p (l.getD i d)then .inl (o++[g (l.getD i d)])else .inr o) l.length 0 []with
  |.inl o=>l.all p=true∧o=l.map g
  |.inr o=>l.all p=false:=by
 have key: ∀f i o,i+f=l.length→(∀j,j<i→p (l.getD j d)=true)→o=(l.take i).map g→match cG (β:=List β) (γ:=List β) (fun i o=>bif p (l.getD i d)then .inl (o++[g (l.getD i d)])else .inr o) f i o with
   |.inl o=>(∀j,j<l.length→p (l.getD j d)=true)∧o=l.map g
   |.inr o=> ∃j,j<l.length∧p (l.getD j d)=false:=by
  intro f
  induction f with
  |zero=>
   intro i o h1 h2 h3
   exact⟨fun j hj=>h2 j (by omega),by rw[h3,List.take_of_length_le (by omega)]⟩
  |succ f ih=>
   intro i o h1 h2 h3
   simp only[cG]
   cases hp:p (l.getD i d)with
   |false=>exact⟨i,by omega,hp⟩
   |true=>
    refine ih (i+1) _ (by omega) (fun j hj=> ?_) ?_
    ·by_cases e:j=i
     ·rw[e];exact hp
     ·exact h2 j (by omega)
    ·rw[h3,List.take_add_one,List.map_append,List.getElem?_eq_getElem (by omega),List.getD_eq_getElem?_getD,List.getElem?_eq_getElem (by omega)];rfl
 have:=key l.length 0 [] (by omega) (fun j hj=>by omega) rfl
 split at this
 ·refine⟨?_,this.2⟩
  rw[←AL (d:=d),cF]
  exact fun i _ hi=>this.1 i (by omega)
 ·obtain⟨j,h1,h2⟩:=this
  cases ha:l.all p with
  |false=>rfl
  |true=>rw[List.all_eq_true.1 ha _ (dC h1)]at h2;cases h2
def okR (x:PK):Bool:=x.ok&& !x.on
theorem US (x:PK):(x.rB&& !x.on)=okR x:=by
 unfold okR
 cases h:x.ok with
 |true=>rw[a3F h]
 |false=>
  have:x.rB=false:=by
   unfold PK.rB krB
   rw[show bT x.k x.a x.b x.c x.on x.kd x.d x.vs=false from h];rfl
  rw[this]
def PK.sd (x:PK):Bool:=decide (x.a.length≤274877906944)&&decide (x.d.length≤274877906944)
def sdK (ks:List PK):Bool:=decide (ks.length≤274877906944)&&ks.all PK.sd
theorem rU {ks:List PK} (h:sdK ks=true):ks.length≤274877906944∧ ∀i,decide ((ks.getD i PK0).a.length≤274877906944)=true∧decide ((ks.getD i PK0).d.length≤274877906944)=true:=by
 simp only[sdK,Bool.and_eq_true,rpS,decide_eq_true_eq]at h
 refine⟨h.1,fun i=> ?_⟩
 by_cases hi:i<ks.length
 ·have:=List.all_eq_true.1 h.2 _ (dC (d:=PK0) hi)
  simpa [PK.sd]using this
 ·rw[List.getD_eq_getElem?_getD,List.getElem?_eq_none (by omega)];exact⟨rfl,rfl⟩
theorem C0 {ks:List PK} (h:sdK ks=true):fR (ks.map PK.rD)=true:=by
 simp only[sdK,Bool.and_eq_true,rpS,decide_eq_true_eq]at h
 simp only[fR,Bool.and_eq_true,rpS,decide_eq_true_eq,List.length_map,List.all_map,List.all_eq_true]
 refine⟨h.1,fun x hx=> ?_⟩
 have:=List.all_eq_true.1 h.2 x hx
 simp only[PK.sd,Bool.and_eq_true,rpS,decide_eq_true_eq]at this
 exact decide_eq_true (yR _ _ _ _ _ _ _ _ this.2)
def itB (ks:List PK):Bool:=ks.all okR&&jtB (ks.map PK.rD)
def itS (ks:List PK):ByteArray:=bif itB ks then d8 (jlI (ks.map PK.rD))else⟨#[]⟩
noncomputable def iI:List aZ:=[⟨118,[],nm (vwM rH)⟩,⟨115,[],nm (vwM kP)⟩]++ZO
theorem a02:aA Tryz.prog iI:=by
 refine aA.append ?_ a8O
 intro e he
 simp only[List.mem_cons,List.not_mem_nil,or_false]at he
 rcases he with rfl|rfl
 ·exact aT.ok (aT.vw m20)
 ·exact aT.ok (aT.vw m93)
theorem mS:bL Tryz.prog (aH iI):=aQ a02
noncomputable abbrev fIT:=Tryz.f60
noncomputable def IIT (ks:List PK) (m:List (List Int)) (n:Nat) (i:Int):St:=aS fIT.ntmps [(4,.c (.sl 0 0 n 1 none)),(14,.c (.view none (.typ .pk ks) ks.length 8 none)),(15,.c (.int .i64 (ks.length:Int))),(16,.c (.int .i64 i))] [.live (.ivs .i64 m)]
noncomputable def XIT (m:List (List Int)) (n:Nat):St:=aS fIT.ntmps [(4,.c (.sl 0 0 n 1 none))] [.live (.ivs .i64 m)]
noncomputable def YIT (m:List (List Int)) (n:Nat):St:=aS fIT.ntmps [(2,.c (.str ⟨#[]⟩)),(3,.c (.bool false)),(4,.c (.sl 0 0 n 1 none))] [.live (.ivs .i64 m)]
def zD (ks:List PK) (m:List (List Int)) (n:Nat) (i:Int):=bt5 (ks.getD i.toNat PK0) (aM tt (aH iI) ([]) 0 100 (aC 0 (aB fIT)) (IIT ks m n i)) (aK 0 (aE fIT 0) (aG fIT 0)) (↑ks.length:Int) (decide (i.toNat<ks.length)&&true) (P:=fun q0 q1 q2 q3 q4=>q2 (q1 [(0,true),(0,true)])=
  some (.ret,(decide (i<q3)&&(decide (0≤i)&&(decide (i<q3)&&(q4&&(decide (q0.7.length≤274877906944)&&(decide ((q0.rD).length=(q0.rD).length)&&(rp3 (!q0.rB) true))))))),[],YIT m n)∧q2 (q1 [(0,true),(0,false),(0,true)])=
  some (.ret,(decide (i<q3)&&(decide (0≤i)&&(decide (i<q3)&&(q4&&(decide (q0.7.length≤274877906944)&&(decide ((q0.rD).length=(q0.rD).length)&&(rp2 (!!q0.rB) ((bif !q0.rB then true else q0.5)&&true)))))))),[],YIT m n)∧q2 (q1 [(0,true),(0,false),(0,false)])=
  some (.normal,(decide (i<q3)&&(decide (0≤i)&&(decide (i<q3)&&(q4&&(decide (q0.7.length≤274877906944)&&(decide ((q0.rD).length=(q0.rD).length)&&(rp2 (!!q0.rB) ((!bif !q0.rB then true else q0.5)&&(decide (n=m.length)&&((decide (n+1≤274877906944))&&true)))))))))),[],IIT ks (m++[q0.rD]) (n+1) (IntKind.i64.wrap (i+1)))∧q2 (q1 [(0,false)])=
  some (.exit 0,((!decide (i<q3))&&true),[],XIT m n)) ⟨by kernel_rfl,by kernel_rfl,by kernel_rfl,by kernel_rfl⟩
def a3G (ks:List PK) (m:List (List Int)) (n:Nat) (i:Int):=(zD ks m n i).1
def a3H (ks:List PK) (m:List (List Int)) (n:Nat) (i:Int):=(zD ks m n i).2.1
def a3I (ks:List PK) (m:List (List Int)) (n:Nat) (i:Int):=(zD ks m n i).2.2.1
def a3J (ks:List PK) (m:List (List Int)) (n:Nat) (i:Int):=(zD ks m n i).2.2.2
theorem a71 (nm:ByteArray) (ks:List PK) (m:List (List Int)) (n:Nat):aJ tt (aH iI) ([(0,⟨aE fIT 0,IIT ks [] 0 0,.normal,XIT m n⟩)]) 100 fIT [.agg [.str nm,.view none (.typ .pk ks) ks.length 8 none]] [] []=
  some ⟨.tup [.c (.str (bif jtB m then d8 (jlI m)else {data:= #[]})),.c (.bool (jtB m))],[],(decide ((↑ks.length:Int)≤274877906944)&&(decide (n=m.length)&&((fR m)&&true))),[IIT ks [] 0 0=IIT ks [] 0 0]⟩:=by kernel_rfl
theorem a86 (nm:ByteArray) (ks:List PK) (m:List (List Int)) (n:Nat):aJ tt (aH iI) ([(0,⟨aE fIT 0,IIT ks [] 0 0,.ret,YIT m n⟩)]) 100 fIT [.agg [.str nm,.view none (.typ .pk ks) ks.length 8 none]] [] []=
  some ⟨.tup [.c (.str {data:= #[]}),.c (.bool false)],[],((decide ((↑ks.length:Int)≤274877906944))&&true),[IIT ks [] 0 0=IIT ks [] 0 0]⟩:=by kernel_rfl
noncomputable abbrev fLT:=Tryz.f57
noncomputable def ILT (ks:List PK) (m:List (List Int)) (n:Nat) (i:Int):St:=aS fLT.ntmps [(0,.c (.view none (.typ .pk ks) ks.length 8 none)),(4,.c (.sl 0 0 n 1 none)),(5,.c (.int .i64 i))] [.live (.ivs .i64 m)]
noncomputable def XLT (m:List (List Int)) (n:Nat):St:=aS fLT.ntmps [(4,.c (.sl 0 0 n 1 none))] [.live (.ivs .i64 m)]
def MM (ks:List PK) (m:List (List Int)) (n:Nat) (i:Int):=bt4 (ks.getD i.toNat PK0) (aM tt (aH iI) ([]) 0 100 (aC 0 (aB fLT)) (ILT ks m n i)) (aK 0 (aE fLT 0) (aG fLT 0)) (↑ks.length:Int) (P:=fun q0 q1 q2 q3=>q2 (q1 [(0,true)])=
  some (.normal,(decide (i<q3)&&(decide (0≤i)&&(decide (i<q3)&&((decide (i.toNat<ks.length)&&true)&&(decide (q0.7.length≤274877906944)&&((q0.5||bet q0.1 1 2&&(decide (q0.2.length=8)&&(aD q0.2&&(decide (q0.3.length=8)&&(decide (q0.4.length=8)&&decide (mxL q0.3≤1000))))))&&(decide ((bif q0.5 then q0.7 else l2D q0.1 q0.2 q0.3 q0.4).length=(bif q0.5 then q0.7 else l2D q0.1 q0.2 q0.3 q0.4).length)&&(decide (n=m.length)&&((decide (n+1≤274877906944))&&true))))))))),[],ILT ks (m++[bif q0.5 then q0.7 else l2D q0.1 q0.2 q0.3 q0.4]) (n+1) (IntKind.i64.wrap (i+1)))∧q2 (q1 [(0,false)])=
  some (.exit 0,((!decide (i<q3))&&true),[],XLT m n)) ⟨by kernel_rfl,by kernel_rfl⟩
def a3M (ks:List PK) (m:List (List Int)) (n:Nat) (i:Int):=(MM ks m n i).1
def a3N (ks:List PK) (m:List (List Int)) (n:Nat) (i:Int):=(MM ks m n i).2
theorem a76 (ks:List PK) (m:List (List Int)) (n:Nat):aJ tt (aH iI) ([(0,⟨aE fLT 0,ILT ks [] 0 0,.normal,XLT m n⟩)]) 100 fLT [.c (.view none (.typ .pk ks) ks.length 8 none)] [] []=
  some ⟨.tup [.c (.str (bif jkB m then jkT m else {data:= #[]})),.c (.bool (jkB m))],[],(decide (n=m.length)&&((fR m)&&true)),[ILT ks [] 0 0=ILT ks [] 0 0]⟩:=by kernel_rfl
noncomputable abbrev fUS:=Tryz.f63
noncomputable def IUS (its:List Itm) (n i:Int):St:=aS fUS.ntmps [(3,.c (.int .i64 n)),(7,.c (.view none (.typ .itm its) its.length 2 none)),(8,.c (.int .i64 (its.length:Int))),(9,.c (.int .i64 i))] []
noncomputable def XUS (n:Int):St:=aS fUS.ntmps [(3,.c (.int .i64 n))] []
theorem a4M (its:List Itm) (n i:Int):aK 0 (aE fUS 0) (aG fUS 0) (aM tt (aH iI) ([]) 0 100 (aC 0 (aB fUS)) (IUS its n i) [(0,true)])=
  some (.normal,(decide (i<(↑its.length:Int))&&(decide (0≤i)&&(decide (i<(↑its.length:Int))&&((decide (i.toNat<its.length)&&true)&&true)))),[],IUS its (IntKind.i64.wrap (n+(↑(its.getD i.toNat bM).ks.length:Int))) (IntKind.i64.wrap (i+1))):=by kernel_rfl
theorem a4N (its:List Itm) (n i:Int):aK 0 (aE fUS 0) (aG fUS 0) (aM tt (aH iI) ([]) 0 100 (aC 0 (aB fUS)) (IUS its n i) [(0,false)])=
  some (.exit 0,((!decide (i<(↑its.length:Int)))&&true),[],XUS n):=by kernel_rfl
theorem a84 (q:Int) (its:List Itm) (n:Int):aJ tt (aH iI) ([(0,⟨aE fUS 0,IUS its 0 0,.normal,XUS n⟩)]) 100 fUS [.agg [.int .i64 q,.view none (.typ .itm its) its.length 2 none]] [] []=
  some ⟨.c (.int .i64 n),[],true,[IUS its 0 0=IUS its 0 0]⟩:=by kernel_rfl
noncomputable abbrev fUT:=Tryz.f65
noncomputable def IUT (q:Int) (its:List Itm) (n i:Int):St:=aS fUT.ntmps [(1,.c (.ptr 0 0 0 0)),(3,.c (.int .i64 n)),(4,.c (.int .i64 i))] [.live (.cells [.int .i64 q,.view none (.typ .itm its) its.length 2 none])]
noncomputable def XUT (n:Int):St:=aS fUT.ntmps [(3,.c (.int .i64 n))] []
theorem a4O (q:Int) (its:List Itm) (n i:Int):aK 0 (aE fUT 0) (aG fUT 0) (aM tt (aH iI) ([]) 0 100 (aC 0 (aB fUT)) (IUT q its n i) [(0,true)])=
  some (.normal,(decide (i<(↑its.length:Int))&&(decide (0≤i)&&(decide (i<(↑its.length:Int))&&((decide (i.toNat<its.length)&&true)&&true)))),[],IUT q its (IntKind.i64.wrap (n+(↑(its.getD i.toNat bM).ks.length:Int))) (IntKind.i64.wrap (i+1))):=by kernel_rfl
theorem a4P (q:Int) (its:List Itm) (n i:Int):aK 0 (aE fUT 0) (aG fUT 0) (aM tt (aH iI) ([]) 0 100 (aC 0 (aB fUT)) (IUT q its n i) [(0,false)])=
  some (.exit 0,((!decide (i<(↑its.length:Int)))&&true),[],XUT n):=by kernel_rfl
theorem a85 (q:Int) (its:List Itm) (n:Int):aJ tt (aH iI) ([(0,⟨aE fUT 0,IUT q its 0 0,.normal,XUT n⟩)]) 100 fUT [.agg [.int .i64 q,.view none (.typ .itm its) its.length 2 none]] [] []=
  some ⟨.c (.int .i64 n),[],true,[IUT q its 0 0=IUT q its 0 0]⟩:=by kernel_rfl
theorem lIT (ks:List PK) (h:sdK ks=true):match cG (β:=List (List Int)) (γ:=List (List Int)) (fun i o=>bif okR (ks.getD i PK0)then .inl (o++[(ks.getD i PK0).rD])else .inr o) ks.length 0 []with
  |.inl o=>aP none Tryz.prog 0 (.block 0 (.loop (aC 0 (aB fIT)))) (IIT ks [] 0 0) fun e t=>e=.normal∧t=XIT o o.length
  |.inr o=>aP none Tryz.prog 0 (.block 0 (.loop (aC 0 (aB fIT)))) (IIT ks [] 0 0) fun e t=>e=.ret∧t=YIT o o.length:=by
 obtain⟨h1,h2⟩:=rU h
 have g:=aP.countE (ro:=none) hT mS bE (m:=0) (id:=0) (body:=aC 0 (aB fIT)) (β:=List (List Int)) (γ:=List (List Int)) ks.length (fun i o=>o.length=i) (fun i o=>IIT ks o o.length i) (fun o=>XIT o o.length) (fun o=>YIT o o.length) .ret (.inr rfl)
  (fun i o=>bif okR (ks.getD i PK0)then .inl (o++[(ks.getD i PK0).rD])else .inr o) (aE fIT 0) (aG fIT 0) (fun _ _=>[]) (fun _ _ _ _=>aL.nil) (fun i o hi ho=> ?_) (fun o _=>⟨_,_,⟨_,_,a3J ks o o.length ks.length,by simp,by simp⟩⟩) [] rfl
 ·split<;>rename_i hq<;>rw[hq]at g<;>exact g
 ·obtain⟨h3,h4⟩:=h2 i
  rw[←US]
  cases hb:(ks.getD i PK0).rB with
  |false=>
   have e:=a3G ks o o.length i
   rw[Int.toNat_natCast]at e
   exact .inr ⟨o,rfl,_,_,⟨_,_,e,by simp only[hb,h4,decide_true,rpS,decide_false,beq_self_eq_true,bne_self_eq_false,Bool.not_true,Bool.not_false,Bool.not_not,cond_true,cond_false,Bool.true_and,Bool.and_true,Bool.false_and,Bool.and_false,Bool.or_true,Bool.true_or,Bool.or_false,Bool.false_or,Bool.and_eq_true,Bool.not_eq_true',decide_eq_true_eq,decide_eq_false_iff_not,true_and,and_true];omega,by simp⟩⟩
  |true=>
   cases ho':(ks.getD i PK0).on with
   |true=>
    have e:=a3H ks o o.length i
    rw[Int.toNat_natCast]at e
    exact .inr ⟨o,rfl,_,_,⟨_,_,e,by simp only[hb,ho',h4,decide_true,rpS,decide_false,beq_self_eq_true,bne_self_eq_false,Bool.not_true,Bool.not_false,Bool.not_not,cond_true,cond_false,Bool.true_and,Bool.and_true,Bool.false_and,Bool.and_false,Bool.or_true,Bool.true_or,Bool.or_false,Bool.false_or,Bool.and_eq_true,Bool.not_eq_true',decide_eq_true_eq,decide_eq_false_iff_not,true_and,and_true];omega,by simp⟩⟩
   |false=>
    have e:=a3I ks o o.length i
    rw[aF (i:=(i:Int)+1) (by omega) (by omega),Int.toNat_natCast]at e
    have e':(o++[(ks.getD i PK0).rD]).length=o.length+1:=List.length_append
    refine .inl ⟨_,rfl,by simp[ho], ?_⟩
    rw[e']
    exact⟨_,_,_,_,e,by simp only[hb,ho',h4,decide_true,rpS,decide_false,beq_self_eq_true,bne_self_eq_false,Bool.not_true,Bool.not_false,Bool.not_not,cond_true,cond_false,Bool.true_and,Bool.and_true,Bool.false_and,Bool.and_false,Bool.or_true,Bool.true_or,Bool.or_false,Bool.false_or,Bool.and_eq_true,Bool.not_eq_true',decide_eq_true_eq,decide_eq_false_iff_not,true_and,and_true];omega,by simp⟩
def SG:aO:=fun args h=>
 match args,h with
 |[.agg [.str nm,.view _ (.typ .pk ks) n 8 _]],[]=>
  some (.tup [.c (.str (itS ks)),.c (.bool (itB ks))],[],[decide (n=ks.length),sdK ks])
 |_,_=>none
theorem mIT:aT Tryz.prog 60 SG:=by
 intro args h res h' o hnorm he ho
 unfold SG at he
 split at he
 case h_2=>cases he
 rename_i nm nl ks n cap
 simp only[Option.some.injEq,Prod.mk.injEq]at he
 obtain⟨rfl,rfl,rfl⟩:=he
 simp only[List.mem_cons,List.not_mem_nil,or_false,forall_eq_or_imp,forall_eq,decide_eq_true_eq]at ho
 obtain⟨o1,o2⟩:=ho
 simp only[b8,AV.norm,bA,aI.norm,Con.size,List.cons.injEq,AV.c.injEq,AV.agg.injEq,aI.view.injEq,aN,true_and,and_true]at hnorm
 obtain⟨rfl,_,rfl⟩:=hnorm
 subst o1
 have o1:=o2
 have hn:=(rU o1).1
 have hn':decide ((ks.length:Int)≤274877906944)=true:=decide_eq_true (by omega)
 have g:=lIT ks o1
 have c:=N4 (p:=okR) (g:=PK.rD) (d:=PK0) ks
 unfold itS itB
 generalize cG (β:=List (List Int)) (γ:=List (List Int)) (fun i o=>bif okR (ks.getD i PK0)then .inl (o++[(ks.getD i PK0).rD])else .inr o) ks.length 0 []=r at g c
 rcases r with r|r
 ·obtain⟨c1,c2⟩:=c
  subst c2
  rw[c1]
  have hs:=C0 o1
  exact bW mS (a71 nm ks (ks.map PK.rD) (ks.map PK.rD).length) (by kernel_rfl) (by kernel_rfl) (by kernel_rfl) g (by simp) (by simp only[hn',hs,decide_true,rpS,decide_false,beq_self_eq_true,bne_self_eq_false,Bool.not_true,Bool.not_false,Bool.not_not,cond_true,cond_false,Bool.true_and,Bool.and_true,Bool.false_and,Bool.and_false,Bool.or_true,Bool.true_or,Bool.or_false,Bool.false_or,Bool.and_eq_true,Bool.not_eq_true',decide_eq_true_eq,decide_eq_false_iff_not,true_and,and_true])
 ·rw[c]
  exact bW mS (a86 nm ks _ _) (by kernel_rfl) (by kernel_rfl) (by kernel_rfl) g (by simp) (by simp only[hn',decide_true,rpS,decide_false,beq_self_eq_true,bne_self_eq_false,Bool.not_true,Bool.not_false,Bool.not_not,cond_true,cond_false,Bool.true_and,Bool.and_true,Bool.false_and,Bool.and_false,Bool.or_true,Bool.true_or,Bool.or_false,Bool.false_or,Bool.and_eq_true,Bool.not_eq_true',decide_eq_true_eq,decide_eq_false_iff_not,true_and,and_true])
theorem PM {x:PK} (h:okR x=true):x.rD=l2D x.k x.a x.b x.c∧x.on=false∧x.d=[]∧(x.on||bet x.k 1 2&&(decide (x.a.length=8)&&(aD x.a&&(decide (x.b.length=8)&&(decide (x.c.length=8)&&decide (mxL x.b≤1000))))))=true:=by
 unfold okR at h
 rw[Bool.and_eq_true,Bool.not_eq_true']at h
 have K:=x.offK h.1 h.2
 have h3:=K.s.mx.2
 refine⟨by rw[WJ h.1 h.2,K.s.rd.1],h.2,K.d0, ?_⟩
 rw[K.s.hk,K.s.ha,K.s.hb,K.s.hc,K.s.hf,decide_eq_true (show mxL x.b≤1000 by omega)]
 simp
theorem yV {α β:Type} {g:α→β} {d:α} (l:List α):bI (fun i o=>o++[g (l.getD i d)]) l.length 0 []=l.map g:=by
 have key: ∀f i o,i+f=l.length→o=(l.take i).map g→bI (fun i o=>o++[g (l.getD i d)]) f i o=l.map g:=by
  intro f
  induction f with
  |zero=>intro i o h1 h3;show o=_;rw[h3,List.take_of_length_le (by omega)]
  |succ f ih=>
   intro i o h1 h3
   refine ih (i+1) _ (by omega) ?_
   rw[h3]
   show List.map g (l.take i)++[g (l.getD i d)]=_
   rw[List.take_add_one,List.map_append,List.getElem?_eq_getElem (by omega),List.getD_eq_getElem?_getD,List.getElem?_eq_getElem (by omega)];rfl
 exact key _ _ _ (by omega) rfl
theorem lLT (ks:List PK) (h:sdK ks=true) (ha:ks.all okR=true):aP none Tryz.prog 0 (.block 0 (.loop (aC 0 (aB fLT)))) (ILT ks [] 0 0) fun e t=>e=.normal∧t=XLT (ks.map PK.rD) (ks.map PK.rD).length:=by
 obtain⟨h1,h2⟩:=rU h
 have g:=aP.count (ro:=none) hT mS bE (m:=0) (id:=0) (body:=aC 0 (aB fLT)) (β:=List (List Int)) ks.length (fun i o=>o.length=i) (fun i o=>ILT ks o o.length i) (fun o=>XLT o o.length) (fun i o=>o++[(ks.getD i PK0).rD]) (aE fLT 0) (aG fLT 0) (fun _ _=>[]) (fun _ _ _ _=>aL.nil) (fun i o hi ho=>⟨by simp[ho], ?_⟩) (fun o _=>⟨_,_,⟨_,_,a3N ks o o.length ks.length,by simp,by simp⟩⟩) [] rfl
 ·rw[yV]at g;exact g
 ·obtain⟨h3,h4⟩:=h2 i
  obtain⟨k1,k2,k3,k4⟩:=PM (List.all_eq_true.1 ha _ (dC (d:=PK0) hi))
  have e:=a3M ks o o.length i
  rw[aF (i:=(i:Int)+1) (by omega) (by omega),Int.toNat_natCast]at e
  have e':(o++[(ks.getD i PK0).rD]).length=o.length+1:=List.length_append
  rw[e',k1]
  rw[show(bif (ks.getD i PK0).5 then(ks.getD i PK0).7 else l2D (ks.getD i PK0).1 (ks.getD i PK0).2 (ks.getD i PK0).3 (ks.getD i PK0).4)=l2D (ks.getD i PK0).k (ks.getD i PK0).a (ks.getD i PK0).b (ks.getD i PK0).c from by rw[show(ks.getD i PK0).5=false from k2];rfl]at e
  exact⟨_,_,_,_,e,by rw[show((ks.getD i PK0).5||bet (ks.getD i PK0).1 1 2&&(decide ((ks.getD i PK0).2.length=8)&&(aD (ks.getD i PK0).2&&(decide ((ks.getD i PK0).3.length=8)&&(decide ((ks.getD i PK0).4.length=8)&&decide (mxL (ks.getD i PK0).3≤1000))))))=true from k4];simp only[h4,decide_true,rpS,decide_false,beq_self_eq_true,bne_self_eq_false,Bool.not_true,Bool.not_false,Bool.not_not,cond_true,cond_false,Bool.true_and,Bool.and_true,Bool.false_and,Bool.and_false,Bool.or_true,Bool.true_or,Bool.or_false,Bool.false_or,Bool.and_eq_true,Bool.not_eq_true',decide_eq_true_eq,decide_eq_false_iff_not,true_and,and_true];omega,by simp⟩
def SJ:aO:=fun args h=>
 match args,h with
 |[.c (.view _ (.typ .pk ks) n 8 _)],[]=>
  some (.tup [.c (.str (itS ks)),.c (.bool (itB ks))],[],[decide (n=ks.length),sdK ks,ks.all okR])
 |_,_=>none
theorem mLT:aT Tryz.prog 57 SJ:=by
 intro args h res h' o hnorm he ho
 unfold SJ at he
 split at he
 case h_2=>cases he
 rename_i nl ks n cap
 simp only[Option.some.injEq,Prod.mk.injEq]at he
 obtain⟨rfl,rfl,rfl⟩:=he
 simp only[List.mem_cons,List.not_mem_nil,or_false,forall_eq_or_imp,forall_eq,decide_eq_true_eq]at ho
 obtain⟨o1,o2,o3⟩:=ho
 simp only[b8,AV.norm,bA,aI.norm,Con.size,List.cons.injEq,AV.c.injEq,AV.agg.injEq,aI.view.injEq,aN,true_and,and_true]at hnorm
 obtain⟨rfl,_,rfl⟩:=hnorm
 subst o1
 have g:=lLT ks o2 o3
 have hs:=C0 o2
 obtain⟨j1,j2⟩:=PD (ks.map PK.rD)
 unfold itS itB
 rw[o3]
 have e:(bif (true&&jtB (ks.map PK.rD))then d8 (jlI (ks.map PK.rD))else⟨#[]⟩)=bif jkB (ks.map PK.rD)then jkT (ks.map PK.rD)else⟨#[]⟩:=by
  rw[←j1]
  cases hj:jtB (ks.map PK.rD)with
  |false=>rfl
  |true=>exact j2 hj
 rw[e,j1]
 exact bW mS (a76 ks (ks.map PK.rD) (ks.map PK.rD).length) (by kernel_rfl) (by kernel_rfl) (by kernel_rfl) g (by simp) (by simp only[hs,decide_true,rpS,decide_false,beq_self_eq_true,bne_self_eq_false,Bool.not_true,Bool.not_false,Bool.not_not,cond_true,cond_false,Bool.true_and,Bool.and_true,Bool.false_and,Bool.and_false,Bool.or_true,Bool.true_or,Bool.or_false,Bool.false_or,Bool.and_eq_true,Bool.not_eq_true',decide_eq_true_eq,decide_eq_false_iff_not,true_and,and_true])
def usS (its:List Itm) (i:Nat) (n:Int):Int:=IntKind.i64.wrap (n+((its.getD i bM).ks.length:Int))
def jP (its:List Itm):Int:=bI (usS its) its.length 0 0
theorem lUS (its:List Itm) (h:its.length≤274877906944):aP none Tryz.prog 0 (.block 0 (.loop (aC 0 (aB fUS)))) (IUS its 0 0) fun e t=>e=.normal∧t=XUS (jP its):=by
 refine aP.count (ro:=none) hT mS bE (m:=0) (id:=0) (body:=aC 0 (aB fUS)) its.length (fun _ _=>True) (fun i n=>IUS its n i) (fun n=>XUS n) (usS its) (aE fUS 0) (aG fUS 0) (fun _ _=>[]) (fun _ _ _ _=>aL.nil) (fun i n hi _=>⟨trivial, ?_⟩) (fun n _=>⟨_,_,⟨_,_,a4N its n its.length,by simp,by simp⟩⟩) 0 trivial
 have e:=a4M its n i
 rw[aF (i:=(i:Int)+1) (by omega) (by omega),Int.toNat_natCast]at e
 exact⟨_,_,⟨_,_,e,by simp only[decide_true,rpS,decide_false,beq_self_eq_true,bne_self_eq_false,Bool.not_true,Bool.not_false,Bool.not_not,cond_true,cond_false,Bool.true_and,Bool.and_true,Bool.false_and,Bool.and_false,Bool.or_true,Bool.true_or,Bool.or_false,Bool.false_or,Bool.and_eq_true,Bool.not_eq_true',decide_eq_true_eq,decide_eq_false_iff_not,true_and,and_true];omega,by simp⟩⟩
theorem lUT (q:Int) (its:List Itm) (h:its.length≤274877906944):aP none Tryz.prog 0 (.block 0 (.loop (aC 0 (aB fUT)))) (IUT q its 0 0) fun e t=>e=.normal∧t=XUT (jP its):=by
 refine aP.count (ro:=none) hT mS bE (m:=0) (id:=0) (body:=aC 0 (aB fUT)) its.length (fun _ _=>True) (fun i n=>IUT q its n i) (fun n=>XUT n) (usS its) (aE fUT 0) (aG fUT 0) (fun _ _=>[]) (fun _ _ _ _=>aL.nil) (fun i n hi _=>⟨trivial, ?_⟩) (fun n _=>⟨_,_,⟨_,_,a4P q its n its.length,by simp,by simp⟩⟩) 0 trivial
 have e:=a4O q its n i
 rw[aF (i:=(i:Int)+1) (by omega) (by omega),Int.toNat_natCast]at e
 exact⟨_,_,⟨_,_,e,by simp only[decide_true,rpS,decide_false,beq_self_eq_true,bne_self_eq_false,Bool.not_true,Bool.not_false,Bool.not_not,cond_true,cond_false,Bool.true_and,Bool.and_true,Bool.false_and,Bool.and_false,Bool.or_true,Bool.true_or,Bool.or_false,Bool.false_or,Bool.and_eq_true,Bool.not_eq_true',decide_eq_true_eq,decide_eq_false_iff_not,true_and,and_true];omega,by simp⟩⟩
def T1:aO:=fun args h=>
 match args,h with
 |[.agg [.int .i64 q,.view _ (.typ .itm its) n 2 _]],[]=>
  some (.c (.int .i64 (jP its)),[],[decide (n=its.length),decide (its.length≤274877906944)])
 |_,_=>none
theorem mUS:aT Tryz.prog 63 T1:=by
 intro args h res h' o hnorm he ho
 unfold T1 at he
 split at he
 case h_2=>cases he
 rename_i q nl its n cap
 simp only[Option.some.injEq,Prod.mk.injEq]at he
 obtain⟨rfl,rfl,rfl⟩:=he
 simp only[List.mem_cons,List.not_mem_nil,or_false,forall_eq_or_imp,forall_eq,decide_eq_true_eq]at ho
 obtain⟨o1,o2⟩:=ho
 simp only[b8,AV.norm,bA,aI.norm,Con.size,List.cons.injEq,AV.c.injEq,AV.agg.injEq,aI.view.injEq,aN,true_and,and_true]at hnorm
 obtain⟨rfl,_,rfl⟩:=hnorm
 subst o1
 have o1':=o2
 exact bW mS (a84 q its (jP its)) (by kernel_rfl) (by kernel_rfl) (by kernel_rfl) (lUS its o1') (by simp) (by simp)
def T4:aO:=fun args h=>
 match args,h with
 |[.agg [.int .i64 q,.view _ (.typ .itm its) n 2 _]],[]=>
  some (.c (.int .i64 (jP its)),[],[decide (n=its.length),decide (its.length≤274877906944)])
 |_,_=>none
theorem mUT:aT Tryz.prog 65 T4:=by
 intro args h res h' o hnorm he ho
 unfold T4 at he
 split at he
 case h_2=>cases he
 rename_i q nl its n cap
 simp only[Option.some.injEq,Prod.mk.injEq]at he
 obtain⟨rfl,rfl,rfl⟩:=he
 simp only[List.mem_cons,List.not_mem_nil,or_false,forall_eq_or_imp,forall_eq,decide_eq_true_eq]at ho
 obtain⟨o1,o2⟩:=ho
 simp only[b8,AV.norm,bA,aI.norm,Con.size,List.cons.injEq,AV.c.injEq,AV.agg.injEq,aI.view.injEq,aN,true_and,and_true]at hnorm
 obtain⟨rfl,_,rfl⟩:=hnorm
 subst o1
 have o1':=o2
 exact bW mS (a85 q its (jP its)) (by kernel_rfl) (by kernel_rfl) (by kernel_rfl) (lUT q its o1') (by simp) (by simp)
theorem a7O (nm:ByteArray) (lcv:List (Nat×LC)):aJ tt (aH iI) (lcv) 100 Tryz.f61 [.c (.str nm)] [] [(0,true),(0,true)]=
  some ⟨.c (.bool (bif bif (↑nm.size:Int)==1 then !cX nm {data:= #[65]}else false then cX nm {data:= #[70]}||hZ nm {data:= #[70]}else false)),[],(rp2 ((↑nm.size:Int)==1) (rp2 (bif (↑nm.size:Int)==1 then !cX nm {data:= #[65]}else false) true)),[]⟩:=by kernel_rfl
theorem a7P (nm:ByteArray) (lcv:List (Nat×LC)):aJ tt (aH iI) (lcv) 100 Tryz.f61 [.c (.str nm)] [] [(0,true),(0,false)]=
  some ⟨.c (.bool false),[],(rp2 ((↑nm.size:Int)==1) (rp3 (!bif (↑nm.size:Int)==1 then !cX nm {data:= #[65]}else false) true)),[]⟩:=by kernel_rfl
theorem a7Q (nm:ByteArray) (lcv:List (Nat×LC)):aJ tt (aH iI) (lcv) 100 Tryz.f61 [.c (.str nm)] [] [(0,false)]=
  some ⟨.c (.bool false),[],(rp3 (!(↑nm.size:Int)==1) true),[]⟩:=by kernel_rfl
theorem a73 (nm:ByteArray) (lcv:List (Nat×LC)):aJ tt (aH iI) (lcv) 100 Tryz.f55 [.c (.str nm)] [] [(0,true),(0,true)]=
  some ⟨.c (.bool (bif bif (↑nm.size:Int)==1 then !cX nm {data:= #[65]}else false then cX nm {data:= #[70]}||hZ nm {data:= #[70]}else false)),[],(rp2 ((↑nm.size:Int)==1) (rp2 (bif (↑nm.size:Int)==1 then !cX nm {data:= #[65]}else false) true)),[]⟩:=by kernel_rfl
theorem a74 (nm:ByteArray) (lcv:List (Nat×LC)):aJ tt (aH iI) (lcv) 100 Tryz.f55 [.c (.str nm)] [] [(0,true),(0,false)]=
  some ⟨.c (.bool false),[],(rp2 ((↑nm.size:Int)==1) (rp3 (!bif (↑nm.size:Int)==1 then !cX nm {data:= #[65]}else false) true)),[]⟩:=by kernel_rfl
theorem a75 (nm:ByteArray) (lcv:List (Nat×LC)):aJ tt (aH iI) (lcv) 100 Tryz.f55 [.c (.str nm)] [] [(0,false)]=
  some ⟨.c (.bool false),[],(rp3 (!(↑nm.size:Int)==1) true),[]⟩:=by kernel_rfl
def cV (nm:ByteArray):Bool:=((nm.size:Int)==1)&&(!cX nm ⟨#[65]⟩&&(cX nm ⟨#[70]⟩||hZ nm ⟨#[70]⟩))
def SY:aO:=fun args h=>
 match args,h with
 |[.c (.str nm)],[]=>
  some (.c (.bool (cV nm)),[],[])
 |_,_=>none
theorem mTI:aR Tryz.prog 61 SY:=by
 intro args h res h' o he ho
 unfold SY at he
 split at he
 case h_2=>cases he
 rename_i nm
 simp only[Option.some.injEq,Prod.mk.injEq]at he
 obtain⟨rfl,rfl,rfl⟩:=he
 unfold cV
 cases h1:(nm.size:Int)==1 with
 |false=>exact cU mS (a7Q nm []) (by kernel_rfl) (by kernel_rfl) rfl (by simp only[h1,decide_true,rpS,decide_false,beq_self_eq_true,bne_self_eq_false,Bool.not_true,Bool.not_false,Bool.not_not,cond_true,cond_false,Bool.true_and,Bool.and_true,Bool.false_and,Bool.and_false,Bool.or_true,Bool.true_or,Bool.or_false,Bool.false_or,Bool.and_eq_true,Bool.not_eq_true',decide_eq_true_eq,decide_eq_false_iff_not,true_and,and_true])
 |true=>
  cases h2:cX nm ⟨#[65]⟩with
  |true=>exact cU mS (a7P nm []) (by kernel_rfl) (by kernel_rfl) rfl (by simp only[h1,h2,decide_true,rpS,decide_false,beq_self_eq_true,bne_self_eq_false,Bool.not_true,Bool.not_false,Bool.not_not,cond_true,cond_false,Bool.true_and,Bool.and_true,Bool.false_and,Bool.and_false,Bool.or_true,Bool.true_or,Bool.or_false,Bool.false_or,Bool.and_eq_true,Bool.not_eq_true',decide_eq_true_eq,decide_eq_false_iff_not,true_and,and_true])
  |false=>
   have e:=a7O nm []
   rw[h1,h2]at e
   exact cU mS e (by kernel_rfl) (by kernel_rfl) rfl (by simp only[decide_true,rpS,decide_false,beq_self_eq_true,bne_self_eq_false,Bool.not_true,Bool.not_false,Bool.not_not,cond_true,cond_false,Bool.true_and,Bool.and_true,Bool.false_and,Bool.and_false,Bool.or_true,Bool.true_or,Bool.or_false,Bool.false_or,Bool.and_eq_true,Bool.not_eq_true',decide_eq_true_eq,decide_eq_false_iff_not,true_and,and_true])
def SI:aO:=fun args h=>
 match args,h with
 |[.c (.str nm)],[]=>
  some (.c (.bool (cV nm)),[],[])
 |_,_=>none
theorem mLN:aR Tryz.prog 55 SI:=by
 intro args h res h' o he ho
 unfold SI at he
 split at he
 case h_2=>cases he
 rename_i nm
 simp only[Option.some.injEq,Prod.mk.injEq]at he
 obtain⟨rfl,rfl,rfl⟩:=he
 unfold cV
 cases h1:(nm.size:Int)==1 with
 |false=>exact cU mS (a75 nm []) (by kernel_rfl) (by kernel_rfl) rfl (by simp only[h1,decide_true,rpS,decide_false,beq_self_eq_true,bne_self_eq_false,Bool.not_true,Bool.not_false,Bool.not_not,cond_true,cond_false,Bool.true_and,Bool.and_true,Bool.false_and,Bool.and_false,Bool.or_true,Bool.true_or,Bool.or_false,Bool.false_or,Bool.and_eq_true,Bool.not_eq_true',decide_eq_true_eq,decide_eq_false_iff_not,true_and,and_true])
 |true=>
  cases h2:cX nm ⟨#[65]⟩with
  |true=>exact cU mS (a74 nm []) (by kernel_rfl) (by kernel_rfl) rfl (by simp only[h1,h2,decide_true,rpS,decide_false,beq_self_eq_true,bne_self_eq_false,Bool.not_true,Bool.not_false,Bool.not_not,cond_true,cond_false,Bool.true_and,Bool.and_true,Bool.false_and,Bool.and_false,Bool.or_true,Bool.true_or,Bool.or_false,Bool.false_or,Bool.and_eq_true,Bool.not_eq_true',decide_eq_true_eq,decide_eq_false_iff_not,true_and,and_true])
  |false=>
   have e:=a73 nm []
   rw[h1,h2]at e
   exact cU mS e (by kernel_rfl) (by kernel_rfl) rfl (by simp only[decide_true,rpS,decide_false,beq_self_eq_true,bne_self_eq_false,Bool.not_true,Bool.not_false,Bool.not_not,cond_true,cond_false,Bool.true_and,Bool.and_true,Bool.false_and,Bool.and_false,Bool.or_true,Bool.true_or,Bool.or_false,Bool.false_or,Bool.and_eq_true,Bool.not_eq_true',decide_eq_true_eq,decide_eq_false_iff_not,true_and,and_true])
end
end Go.Proofs.YtdnfojanjejdgaaGreat.Am
