/- DERIVED. Pure: more shards bear no less; four of them do; so a shard that is lost has a plan. No statement of the program is proved here. -/
import Derived.Test.YthapjdpkelihiaaGreatX21
set_option linter.unusedSimpArgs false
set_option linter.unusedVariables false
set_option linter.unusedSectionVars false
namespace Go.Proofs.YthapjdpkelihiaaGreat.Am
def KB (k:Int):Nat→List Bool→(List Bool→Bool)→Bool
 |0,acc,K=>K acc
 |n+1,acc,K=>fB (bO k (flg (dA n))) fun b=>KB k n (b::acc) K
def D5 (k:Int):Nat→List Bool→List Bool
 |0,acc=>acc
 |n+1,acc=>D5 k n (bO k (flg (dA n))::acc)
theorem yG (k:Int): ∀(n:Nat) (acc:List Bool) (K:List Bool→Bool),KB k n acc K=K (D5 k n acc)
 |0,_,_=>rfl
 |n+1,acc,K=>by simp only[KB,P2,D5];exact yG k n _ K
theorem oI (k:Int): ∀(n:Nat) (acc:List Bool) (m:Nat),(D5 k n acc).getD m false=if m<n then bO k (flg (dA m))else acc.getD (m-n) false
 |0,acc,m=>by simp[D5]
 |n+1,acc,m=>by
  simp only[D5]
  rw[oI k n _ m]
  by_cases h:m<n
  ·rw[if_pos h,if_pos (by omega)]
  ·rw[if_neg h]
   by_cases e:m=n
   ·subst e;rw[if_pos (by omega),Nat.sub_self];rfl
   ·rw[if_neg (by omega),show m-n=m-(n+1)+1 from by omega];rfl
def orI (m i:Nat):Nat:=bif m.testBit i then m else m+2^i
def P3:List Nat:=(List.range 256).filter fun q=>Nat.beq (flg (dA q)).length 4
def HT (T:List Bool):Bool:=cB (fun m=> !T.getD m false||(cB (fun i=>T.getD (orI m i) false) 8&&P3.any fun q=>Nat.beq (Nat.land q m) q&&T.getD q false)) 256
theorem WM:KB 1 256 [] HT=true:=by kernel_rfl
theorem WN:KB 2 256 [] HT=true:=by kernel_rfl
theorem ME:cB (fun m=>cB (fun i=>decide (orI m i<256)&&decide (dA (orI m i)=(dA m).set i true)) 8) 256=true:=by kernel_rfl
theorem fP {q m:Nat} (h:Nat.land q m=q) (i:Nat) (hq:q.testBit i=true):m.testBit i=true:=by
 have:(q&&&m).testBit i=true:=by rw[show q&&&m=q from h];exact hq
 rw[Nat.testBit_and,Bool.and_eq_true]at this
 exact this.2
theorem O3 {k:Int} (hk:bet k 1 2=true):HT (D5 k 256 [])=true:=by
 rcases two hk with rfl|rfl
 ·exact(yG 1 256 [] HT).symm.trans WM
 ·exact(yG 2 256 [] HT).symm.trans WN
theorem nH {q q':Nat→Bool} (h: ∀i,q i=true→q' i=true): ∀j,(frQ q j).Sublist (frQ q' j)
 |0=>List.Sublist.refl _
 |j+1=>by
  simp only[frQ]
  cases hq:q (7-j)with
  |true=>rw[h _ hq,cond_true,cond_true];exact(nH h j).cons_cons _
  |false=>
   rw[cond_false]
   cases q' (7-j)with
   |true=>rw[cond_true];exact(nH h j).cons _
   |false=>rw[cond_false];exact nH h j
theorem qA {k:Int} (hk:bet k 1 2=true) {c:List Bool} (hc:c.length=8) (hb:bO k (flg c)=true):
  (∀i,i<8→bO k (flg (c.set i true))=true)∧ ∃c',c'.length=8∧(∀i,c'.getD i false=true→c.getD i false=true)∧(flg c').length=4∧bO k (flg c')=true:=by
 obtain⟨m,hm,rfl⟩:=nR c hc
 have h:=aY (O3 hk) m hm
 rw[oI,if_pos hm,hb,Bool.not_true,Bool.false_or,Bool.and_eq_true]at h
 obtain⟨h1,h2⟩:=h
 refine⟨fun i hi=> ?_, ?_⟩
 ·have g:=aY h1 i hi
  have o:=aY (aY ME m hm) i hi
  simp only[Bool.and_eq_true,decide_eq_true_eq]at o
  rw[oI,if_pos o.1,o.2]at g
  exact g
 ·obtain⟨q,hq,e⟩:=List.any_eq_true.1 h2
  rw[Bool.and_eq_true]at e
  obtain⟨e1,e2⟩:=e
  simp only[P3,List.mem_filter,List.mem_range]at hq
  refine⟨dA q,rfl,fun i hi=> ?_,Nat.eq_of_beq_eq_true hq.2, ?_⟩
  ·have e1:=Nat.eq_of_beq_eq_true e1
   match i,hi with
   |0,hi=>exact fP e1 0 hi
   |1,hi=>exact fP e1 1 hi
   |2,hi=>exact fP e1 2 hi
   |3,hi=>exact fP e1 3 hi
   |4,hi=>exact fP e1 4 hi
   |5,hi=>exact fP e1 5 hi
   |6,hi=>exact fP e1 6 hi
   |7,hi=>exact fP e1 7 hi
   |n+8,hi=>simp[dA]at hi
  ·rw[oI,if_pos hq.1]at e2;exact e2
theorem LX {c:List Bool} (hc:c.length=8):frQ (fun i=>c.getD i false) 8=flg c:=by
 have: ∀j,j≤8→frQ (fun i=>c.getD i false) j=eG c j (8-j):=fun j=>by
  induction j with
  |zero=>intro _;rfl
  |succ j ih=>
   intro h
   have e:=ih (by omega)
   rw[show 8-j=7-j+1 from by omega]at e
   rw[show 8-(j+1)=7-j from by omega]
   simp only[frQ,eG]
   cases hc:c.getD (7-j) false with
   |false=>simpa using e
   |true=>rw[cond_true,if_pos rfl,e]
 have:=this 8 (Nat.le_refl _)
 unfold flg;rw[hc];exact this
theorem CV {k l:Int} (hk:bet k 1 2=true) (hl:bet l 0 7=true) {c:List Bool} (hc:c.length=8) (hb:bO k (flg c)=true) (hn:c.getD l.toNat false=false):isO (ofR k l c 4)=true:=by
 obtain⟨-,c',h1,h2,h3,h4⟩:=qA hk hc hb
 have hl':=b8.1 hl
 have sub:(flg c').Sublist (frQ (srQ l c) 8):=by
  rw[←LX h1]
  refine nH (fun i hi=> ?_) 8
  have:=h2 i hi
  unfold srQ
  rw[this,Bool.true_and,Bool.not_eq_true',beq_eq_false_iff_ne]
  intro e
  rw[←e,Int.toNat_natCast,this]at hn
  cases hn
 have hlm:l∉flg c':=CU hk hl sub
 have hp:=y7 hk hl (m:=3) (by omega) (sub.trans (nJ _ _)) h3 hlm
 unfold pl1 at hp
 have hp:=(Bool.and_eq_true_iff.1 hp).1
 have hr:Nat.beq (w9 (cG k (flg c')) (flg c').length) 4=true:=by
  unfold bO at h4
  rw[beq_iff_eq]at h4
  rw[show w9 (cG k (flg c')) (flg c').length=4 from by omega];rfl
 rw[hr,Bool.not_true,Bool.false_or]at hp
 cases ho:ofR k l c 4 with
 |some y=>rfl
 |none=>
  have e2: ∀m,shS k l c 0 m []=chL (slB k l) (frQ (srQ l c) 8) m []:=fun m=>by rw[tZ,O1]
  simp only[ofR,e2,Nat.sub_zero,Nat.reduceSub]at ho
  cases g1:chL (slB k l) (frQ (srQ l c) 8) 1 []with
  |some y=>rw[g1]at ho;cases ho
  |none=>
   rw[g1]at ho
   cases g2:chL (slB k l) (frQ (srQ l c) 8) 2 []with
   |some y=>rw[g2]at ho;cases ho
   |none=>
    rw[g2]at ho
    cases g3:chL (slB k l) (frQ (srQ l c) 8) 3 []with
    |some y=>rw[g3]at ho;cases ho
    |none=>
     rw[g3]at ho
     cases g4:chL (slB k l) (frQ (srQ l c) 8) 4 []with
     |some y=>rw[g4]at ho;cases ho
     |none=>
      have:=n7 g4 _ sub h3
      rw[List.nil_append,hp]at this
      cases this
end Go.Proofs.YthapjdpkelihiaaGreat.Am
