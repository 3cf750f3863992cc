/- DERIVED. Pure: sets of shards that make a plan, all tested. No statement of the program is proved here. -/
import Derived.Test.YthapjdpkelihiaaGreatX19
set_option linter.unusedSimpArgs false
set_option linter.unusedVariables false
set_option linter.unusedSectionVars false
namespace Go.Proofs.YthapjdpkelihiaaGreat.Am
def A1:List Int→List Int→Bool
 |[],[]=>true
 |x::r,y::s=>(x==y)&&A1 r s
 |_,_=>false
def H4 (f:Nat→Bool):Nat→Bool
 |0=>false
 |n+1=>f n||H4 f n
def iN (x:Int):List Int→Bool
 |[]=>false
 |y::r=>(x==y)||iN x r
def pl1 (k l:Int) (f:List Int):Bool:=
 (!Nat.beq (vR (cC k f) f.length) 4||slB k l f)&&bif plB k l f then slB k l f&&(A1 (plA k l f) (slA k l f)&&c7 (fun q=>xP (r6 (fun j=>(plA k l f).getD j 0*(aH k (f.getD j 0)).getD q 0) f.length-(aH k l).getD q 0)) 4)
 else bif slB k l f then H4 (fun i=>((slA k l f).getD i 0==0)&&slB k l (f.eraseIdx i)) f.length else true
def fB (b:Bool) (K:Bool→Bool):Bool:=match b with
 |true=>K true
 |false=>K false
theorem OM (b:Bool) (K:Bool→Bool):fB b K=K b:=by cases b<;>rfl
def plC (k l:Int) (f R:List Int) (n:Nat) (ind:Bool) (X:List Int):Bool:=
  fL (inK R n ((aH k l).getD 0 0) ((aH k l).getD 1 0) ((aH k l).getD 2 0) ((aH k l).getD 3 0)) fun K=>fL (plO (xX (ngA K)) f.length) fun A=>
   (!Nat.beq n 4||(bif ind then false else !bet (b9 X) 0 3))&&bif (bif zB K then fmB l f A else false)then(bif ind then false else !bet (b9 X) 0 3)&&(A1 A (yP X)&&c7 (fun q=>xP (r6 (fun j=>A.getD j 0*(aH k (f.getD j 0)).getD q 0) f.length-(aH k l).getD q 0)) 4)
   else bif (bif ind then false else !bet (b9 X) 0 3)then fL (yP X) fun D=>H4 (fun i=>(D.getD i 0==0)&&slB k l (f.eraseIdx i)) f.length else true
theorem R0 (k l:Int) (f:List Int):plC k l f (cH (cC k f) f.length).1 (cH (cC k f) f.length).2.length (decide (((bQ (rfL k f)).length:Int)<((rfL k f).length:Int))) (byE (rfL k f) (aH k l)).2=pl1 k l f:=by
 simp only[plC,jZ];rfl
def byR (m:List (List Int)) (v:List Int):List Int:=v++List.replicate m.length 0
def plF (k:Int) (f:List Int):Bool:=fL f fun f=>fL (cC k f) fun xs=>vZ xs f.length 0 [] [] fun R P=>fLL (rfL k f) fun m=>fB (decide (((bQ m).length:Int)<(m.length:Int))) fun ind=>fLL (bwL m) fun rows=>
 byG 4 0 rows (byR m (aH k 0)) (byR m (aH k 1)) (byR m (aH k 2)) (byR m (aH k 3)) fun a b c d=>byG 4 0 rows (byR m (aH k 4)) (byR m (aH k 5)) (byR m (aH k 6)) (byR m (aH k 7)) fun e g h i=>
  (iN 0 f||plC k 0 f R P.length ind a)&&((iN 1 f||plC k 1 f R P.length ind b)&&((iN 2 f||plC k 2 f R P.length ind c)&&((iN 3 f||plC k 3 f R P.length ind d)&&((iN 4 f||plC k 4 f R P.length ind e)&&((iN 5 f||plC k 5 f R P.length ind g)&&((iN 6 f||plC k 6 f R P.length ind h)&&(iN 7 f||plC k 7 f R P.length ind i)))))))
theorem R1 (k:Int) (f:List Int):plF k f=((iN 0 f||pl1 k 0 f)&&((iN 1 f||pl1 k 1 f)&&((iN 2 f||pl1 k 2 f)&&((iN 3 f||pl1 k 3 f)&&((iN 4 f||pl1 k 4 f)&&((iN 5 f||pl1 k 5 f)&&((iN 6 f||pl1 k 6 f)&&(iN 7 f||pl1 k 7 f)))))))):=by
 simp only[plF,jZ,nW,j5,OM,xC,←R0];rfl
theorem XJ:c7 (fun m=>fH (plF 1) 8 (m+1) []) 3=true:=by kernel_rfl
theorem XK:fH (plF 1) 7 3 [((7-7:Nat):Int)]=true:=by kernel_rfl
theorem XL:fH (plF 1) 7 4 []=true:=by kernel_rfl
theorem XM:c7 (fun m=>fH (plF 2) 8 (m+1) []) 3=true:=by kernel_rfl
theorem XN:fH (plF 2) 7 3 [((7-7:Nat):Int)]=true:=by kernel_rfl
theorem XO:fH (plF 2) 7 4 []=true:=by kernel_rfl
theorem XP {k:Int} (hk:bet k 1 2=true) {m:Nat} (hm:m<4):fH (plF k) 8 (m+1) []=true:=by
 have:=aX.1 hk
 rcases(by omega:k=1∨k=2)with rfl|rfl
 ·by_cases h:m<3
  ·exact aV XJ m h
  ·obtain rfl:m=3:=by omega
   show(fH (plF 1) 7 3 ([]++[((7-7:Nat):Int)])&&fH (plF 1) 7 4 [])=true
   rw[List.nil_append,XK,XL];rfl
 ·by_cases h:m<3
  ·exact aV XM m h
  ·obtain rfl:m=3:=by omega
   show(fH (plF 2) 7 3 ([]++[((7-7:Nat):Int)])&&fH (plF 2) 7 4 [])=true
   rw[List.nil_append,XN,XO];rfl
end Go.Proofs.YthapjdpkelihiaaGreat.Am
