/- DERIVED. Pure: sets of shards that make a plan, all tested. No statement of the program is proved here. -/
import Derived.Test.YthapjdpkelihiaaGreatX19
set_option linter.unusedSimpArgs false
set_option linter.unusedVariables false
set_option linter.unusedSectionVars false
namespace Go.Proofs.YthapjdpkelihiaaGreat.Am
def AF:List Int→List Int→Bool
 |[],[]=>true
 |x::r,y::s=>(x==y)&&AF r s
 |_,_=>false
def HL (f:Nat→Bool):Nat→Bool
 |0=>false
 |n+1=>f n||HL f n
def iW (x:Int):List Int→Bool
 |[]=>false
 |y::r=>(x==y)||iW x r
def pl1 (k l:Int) (f:List Int):Bool:=
 (!Nat.beq (w9 (cG k f) f.length) 4||slB k l f)&&bif plB k l f then slB k l f&&(AF (plA k l f) (slA k l f)&&cB (fun q=>y5 (rH (fun j=>(plA k l f).getD j 0*(aL k (f.getD j 0)).getD q 0) f.length-(aL k l).getD q 0)) 4)
 else bif slB k l f then HL (fun i=>((slA k l f).getD i 0==0)&&slB k l (f.eraseIdx i)) f.length else true
def fB (b:Bool) (K:Bool→Bool):Bool:=match b with
 |true=>K true
 |false=>K false
theorem P2 (b:Bool) (K:Bool→Bool):fB b K=K b:=by cases b<;>rfl
def plC (k l:Int) (f R:List Int) (n:Nat) (ind:Bool) (X:List Int):Bool:=
  fL (inK R n ((aL k l).getD 0 0) ((aL k l).getD 1 0) ((aL k l).getD 2 0) ((aL k l).getD 3 0)) fun K=>fL (plO (yD (ngA K)) f.length) fun A=>
   (!Nat.beq n 4||(bif ind then false else !bet (bD X) 0 3))&&bif (bif zB K then fmB l f A else false)then(bif ind then false else !bet (bD X) 0 3)&&(AF A (z7 X)&&cB (fun q=>y5 (rH (fun j=>A.getD j 0*(aL k (f.getD j 0)).getD q 0) f.length-(aL k l).getD q 0)) 4)
   else bif (bif ind then false else !bet (bD X) 0 3)then fL (z7 X) fun D=>HL (fun i=>(D.getD i 0==0)&&slB k l (f.eraseIdx i)) f.length else true
theorem RL (k l:Int) (f:List Int):plC k l f (cL (cG k f) f.length).1 (cL (cG k f) f.length).2.length (decide (((bW (rfL k f)).length:Int)<((rfL k f).length:Int))) (byE (rfL k f) (aL k l)).2=pl1 k l f:=by
 simp only[plC,kG];rfl
def byR (m:List (List Int)) (v:List Int):List Int:=v++List.replicate m.length 0
def plF (k:Int) (f:List Int):Bool:=fL f fun f=>fL (cG k f) fun xs=>wG xs f.length 0 [] [] fun R P=>fLL (rfL k f) fun m=>fB (decide (((bW m).length:Int)<(m.length:Int))) fun ind=>fLL (bwL m) fun rows=>
 byG 4 0 rows (byR m (aL k 0)) (byR m (aL k 1)) (byR m (aL k 2)) (byR m (aL k 3)) fun a b c d=>byG 4 0 rows (byR m (aL k 4)) (byR m (aL k 5)) (byR m (aL k 6)) (byR m (aL k 7)) fun e g h i=>
  (iW 0 f||plC k 0 f R P.length ind a)&&((iW 1 f||plC k 1 f R P.length ind b)&&((iW 2 f||plC k 2 f R P.length ind c)&&((iW 3 f||plC k 3 f R P.length ind d)&&((iW 4 f||plC k 4 f R P.length ind e)&&((iW 5 f||plC k 5 f R P.length ind g)&&((iW 6 f||plC k 6 f R P.length ind h)&&(iW 7 f||plC k 7 f R P.length ind i)))))))
theorem RM (k:Int) (f:List Int):plF k f=((iW 0 f||pl1 k 0 f)&&((iW 1 f||pl1 k 1 f)&&((iW 2 f||pl1 k 2 f)&&((iW 3 f||pl1 k 3 f)&&((iW 4 f||pl1 k 4 f)&&((iW 5 f||pl1 k 5 f)&&((iW 6 f||pl1 k 6 f)&&(iW 7 f||pl1 k 7 f)))))))):=by
 simp only[plF,kG,oD,jE,P2,xP,←RL];rfl
theorem Y9:cB (fun m=>fR (plF 1) 8 (m+1) []) 3=true:=by kernel_rfl
theorem YA:fR (plF 1) 7 3 [((7-7:Nat):Int)]=true:=by kernel_rfl
theorem YB:fR (plF 1) 7 4 []=true:=by kernel_rfl
theorem YC:cB (fun m=>fR (plF 2) 8 (m+1) []) 3=true:=by kernel_rfl
theorem YD:fR (plF 2) 7 3 [((7-7:Nat):Int)]=true:=by kernel_rfl
theorem YE:fR (plF 2) 7 4 []=true:=by kernel_rfl
theorem YF {k:Int} (hk:bet k 1 2=true) {m:Nat} (hm:m<4):fR (plF k) 8 (m+1) []=true:=by
 have:=b8.1 hk
 rcases(by omega:k=1∨k=2)with rfl|rfl
 ·by_cases h:m<3
  ·exact aY Y9 m h
  ·obtain rfl:m=3:=by omega
   show(fR (plF 1) 7 3 ([]++[((7-7:Nat):Int)])&&fR (plF 1) 7 4 [])=true
   rw[List.nil_append,YA,YB];rfl
 ·by_cases h:m<3
  ·exact aY YC m h
  ·obtain rfl:m=3:=by omega
   show(fR (plF 2) 7 3 ([]++[((7-7:Nat):Int)])&&fR (plF 2) 7 4 [])=true
   rw[List.nil_append,YD,YE];rfl
end Go.Proofs.YthapjdpkelihiaaGreat.Am
