/- DERIVED. Pure: more shards bear no less; four of them do; so a shard that is lost has a plan. No statement of the program is proved here. -/
import Derived.Test.YthapjdpkelihiaaGreatX21
set_option linter.unusedSimpArgs false
set_option linter.unusedVariables false
set_option linter.unusedSectionVars false
namespace Go.Proofs.YthapjdpkelihiaaGreat.Am
def JW (k:Int):Nat→List Bool→(List Bool→Bool)→Bool
 |0,acc,K=>K acc
 |n+1,acc,K=>fB (bO k (flg (cZ n))) fun b=>JW k n (b::acc) K
def CQ (k:Int):Nat→List Bool→List Bool
 |0,acc=>acc
 |n+1,acc=>CQ k n (bO k (flg (cZ n))::acc)
theorem y4 (k:Int): ∀(n:Nat) (acc:List Bool) (K:List Bool→Bool),JW k n acc K=K (CQ k n acc)
 |0,_,_=>rfl
 |n+1,acc,K=>by simp only[JW,OM,CQ];exact y4 k n _ K
theorem oB (k:Int): ∀(n:Nat) (acc:List Bool) (m:Nat),(CQ k n acc).getD m false=if m<n then bO k (flg (cZ m))else acc.getD (m-n) false
 |0,acc,m=>by simp[CQ]
 |n+1,acc,m=>by
  simp only[CQ]
  rw[oB k n _ m]
  by_cases h:m<n
  ·rw[if_pos h,if_pos (by omega)]
  ·rw[if_neg h]
   by_cases e:m=n
   ·subst e;rw[if_pos (by omega),Nat.sub_self];rfl
   ·rw[if_neg (by omega),show m-n=m-(n+1)+1 from by omega];rfl
def orI (m i:Nat):Nat:=bif m.testBit i then m else m+2^i
def ON:List Nat:=(List.range 256).filter fun q=>Nat.beq (flg (cZ q)).length 4
def HC (T:List Bool):Bool:=c7 (fun m=> !T.getD m false||(c7 (fun i=>T.getD (orI m i) false) 8&&ON.any fun q=>Nat.beq (Nat.land q m) q&&T.getD q false)) 256
theorem VY:JW 1 256 [] HC=true:=by kernel_rfl
theorem VZ:JW 2 256 [] HC=true:=by kernel_rfl
theorem LZ:c7 (fun m=>c7 (fun i=>decide (orI m i<256)&&decide (cZ (orI m i)=(cZ m).set i true)) 8) 256=true:=by kernel_rfl
theorem fF {q m:Nat} (h:Nat.land q m=q) (i:Nat) (hq:q.testBit i=true):m.testBit i=true:=by
 have:(q&&&m).testBit i=true:=by rw[show q&&&m=q from h];exact hq
 rw[Nat.testBit_and,Bool.and_eq_true]at this
 exact this.2
theorem NO {k:Int} (hk:bet k 1 2=true):HC (CQ k 256 [])=true:=by
 rcases two hk with rfl|rfl
 ·exact(y4 1 256 [] HC).symm.trans VY
 ·exact(y4 2 256 [] HC).symm.trans VZ
theorem n9 {q q':Nat→Bool} (h: ∀i,q i=true→q' i=true): ∀j,(frQ q j).Sublist (frQ q' j)
 |0=>List.Sublist.refl _
 |j+1=>by
  simp only[frQ]
  cases hq:q (7-j)with
  |true=>rw[h _ hq,cond_true,cond_true];exact(n9 h j).cons_cons _
  |false=>
   rw[cond_false]
   cases q' (7-j)with
   |true=>rw[cond_true];exact(n9 h j).cons _
   |false=>rw[cond_false];exact n9 h j
theorem pV {k:Int} (hk:bet k 1 2=true) {c:List Bool} (hc:c.length=8) (hb:bO k (flg c)=true):
  (∀i,i<8→bO k (flg (c.set i true))=true)∧ ∃c',c'.length=8∧(∀i,c'.getD i false=true→c.getD i false=true)∧(flg c').length=4∧bO k (flg c')=true:=by
 obtain⟨m,hm,rfl⟩:=nJ c hc
 have h:=aV (NO hk) m hm
 rw[oB,if_pos hm,hb,Bool.not_true,Bool.false_or,Bool.and_eq_true]at h
 obtain⟨h1,h2⟩:=h
 refine⟨fun i hi=> ?_, ?_⟩
 ·have g:=aV h1 i hi
  have o:=aV (aV LZ m hm) i hi
  simp only[Bool.and_eq_true,rpS,decide_eq_true_eq]at o
  rw[oB,if_pos o.1,o.2]at g
  exact g
 ·obtain⟨q,hq,e⟩:=List.any_eq_true.1 h2
  rw[Bool.and_eq_true]at e
  obtain⟨e1,e2⟩:=e
  simp only[ON,List.mem_filter,List.mem_range]at hq
  refine⟨cZ q,rfl,fun i hi=> ?_,Nat.eq_of_beq_eq_true hq.2, ?_⟩
  ·have e1:=Nat.eq_of_beq_eq_true e1
   match i,hi with
   |0,hi=>exact fF e1 0 hi
   |1,hi=>exact fF e1 1 hi
   |2,hi=>exact fF e1 2 hi
   |3,hi=>exact fF e1 3 hi
   |4,hi=>exact fF e1 4 hi
   |5,hi=>exact fF e1 5 hi
   |6,hi=>exact fF e1 6 hi
   |7,hi=>exact fF e1 7 hi
   |n+8,hi=>simp[cZ]at hi
  ·rw[oB,if_pos hq.1]at e2;exact e2
theorem LG {c:List Bool} (hc:c.length=8):frQ (fun i=>c.getD i false) 8=flg c:=by
 have: ∀j,j≤8→frQ (fun i=>c.getD i false) j=dY c j (8-j):=fun j=>by
  induction j with
  |zero=>intro _;rfl
  |succ j ih=>
   intro h
   have e:=ih (by omega)
   rw[show 8-j=7-j+1 from by omega]at e
   rw[show 8-(j+1)=7-j from by omega]
   simp only[frQ,dY]
   cases hc:c.getD (7-j) false with
   |false=>simpa using e
   |true=>rw[cond_true,if_pos rfl,e]
 have:=this 8 (Nat.le_refl _)
 unfold flg;rw[hc];exact this
theorem CG {k l:Int} (hk:bet k 1 2=true) (hl:bet l 0 7=true) {c:List Bool} (hc:c.length=8) (hb:bO k (flg c)=true) (hn:c.getD l.toNat false=false):isO (ofR k l c 4)=true:=by
 obtain⟨-,c',h1,h2,h3,h4⟩:=pV hk hc hb
 have hl':=aX.1 hl
 have sub:(flg c').Sublist (frQ (srQ l c) 8):=by
  rw[←LG h1]
  refine n9 (fun i hi=> ?_) 8
  have:=h2 i hi
  unfold srQ
  rw[this,Bool.true_and,Bool.not_eq_true',beq_eq_false_iff_ne]
  intro e
  rw[←e,Int.toNat_natCast,this]at hn
  cases hn
 have hlm:l∉flg c':=CF hk hl sub
 have hp:=xR hk hl (m:=3) (by omega) (sub.trans (nA _ _)) h3 hlm
 unfold pl1 at hp
 have hp:=(Bool.and_eq_true_iff.1 hp).1
 have hr:Nat.beq (vR (cC k (flg c')) (flg c').length) 4=true:=by
  unfold bO at h4
  rw[beq_iff_eq]at h4
  rw[show vR (cC k (flg c')) (flg c').length=4 from by omega];rfl
 rw[hr,Bool.not_true,Bool.false_or]at hp
 cases ho:ofR k l c 4 with
 |some y=>rfl
 |none=>
  have e2: ∀m,shS k l c 0 m []=chL (slB k l) (frQ (srQ l c) 8) m []:=fun m=>by rw[tN,NL]
  simp only[ofR,e2,Nat.sub_zero,Nat.reduceSub]at ho
  cases g1:chL (slB k l) (frQ (srQ l c) 8) 1 []with
  |some y=>rw[g1]at ho;cases ho
  |none=>
   rw[g1]at ho
   cases g2:chL (slB k l) (frQ (srQ l c) 8) 2 []with
   |some y=>rw[g2]at ho;cases ho
   |none=>
    rw[g2]at ho
    cases g3:chL (slB k l) (frQ (srQ l c) 8) 3 []with
    |some y=>rw[g3]at ho;cases ho
    |none=>
     rw[g3]at ho
     cases g4:chL (slB k l) (frQ (srQ l c) 8) 4 []with
     |some y=>rw[g4]at ho;cases ho
     |none=>
      have:=mT g4 _ sub h3
      rw[List.nil_append,hp]at this
      cases this
end Go.Proofs.YthapjdpkelihiaaGreat.Am
