/- DERIVED. Part 18 of the proof: Am34, C68, C69, C70, C71, C72, C73, C74, L1, Am35, Am39, Am40, C93, C94, C95, C96, P20, C97, Am41, C98. No statement of the program is proved here. -/
import Derived.Test.YthapjdpkelihiaaGreatX17
import Derived.Test.YthapjdpkelihiaaGreatRows
import Derived.WalkKit
import Derived.ProofKit
import Derived.OpenShut
import Derived.ShutString
import Derived.ChangeOld
import Derived.Below
set_option linter.unusedSimpArgs false
set_option linter.unusedVariables false
set_option linter.unusedSectionVars false
namespace Go.Proofs.YthapjdpkelihiaaGreat.Am
section
theorem bA.froz1 {P:Program} {f:FuncId} {args:List AV} {h h':List aW} {cs:List aF} (hm:bA P f args h (.agg cs) h') {j id len:Nat} {c:Con} (hj:cs.getD j .any=.sl id 0 len 1 none) (hjl:j<cs.length) (hs:Heap.get h' id=.live c) (hf:c.free=true) (hz:len=c.size):
  bA P f args h (.agg (cs.set j (.view none c len 1 none))) (h'.set id .dead):=by
 refine⟨hm.1,fun {X w0 ρ0} m vs hl' hv=> ?_⟩
 refine Calls.mono (hm.2 m vs hl' hv) ?_
 rintro e w' ⟨v,ρ',rfl,mb,im,m',hx⟩
 obtain⟨mo,m2⟩:=m'.kill (id:=id) (by rw[hs];simp)
 refine⟨v,upd ρ' id .dead,rfl,mb.trans mo.toB,im.trans mo.ids,m2, ?_⟩
 cases hx with
 |agg cs us hus hx=>
  refine .agg _ us (by rw[List.length_set];exact hus) fun i hi=> ?_
  rw[List.length_set]at hi
  have hxi:=hx i hi
  by_cases ei:j=i
  ·subst ei
   have e1:(cs.set j (.view none c len 1 none)).getD j .any=.view none c len 1 none:=by
    rw[List.getD_eq_getElem?_getD,List.getElem?_set_self hi];rfl
   rw[e1]
   rw[hj]at hxi
   have nl: ∀b,ρ' id=.row b→ ¬(bH (upd ρ' id .dead) b∨X b):=by
    rintro b hb (⟨q,hq⟩|hxb)
    ·by_cases eq:q=id
     ·subst eq;rw[b8]at hq;cases hq
     ·rw[bG _ _ eq]at hq;exact eq (m'.inj q id b hq hb)
    ·exact m'.notX hb hxb
   revert hxi
   generalize us.getD j undef=u
   intro hxi
   rcases cW m' hs hxi with⟨b,k,ty,n,hb,rfl,⟨ds,ty',hrow,hsz,hcs⟩,hsh,hn,hlc,hcap⟩|⟨ad,rfl,rfl,hcap⟩
   ·rw[Nat.zero_mul]
    refine .view none c len 1 none b 0 k (fun q=>ds.getD q undef) (fun _ h=>nl b hb h) (fun q hq=> ?_) (fun q hq=> ?_) (by omega) hlc (fun _ h=>by cases h) (fun _ h=>by cases h)
    ·have hq':q<ds.size:=by omega
     simp[World.cell?,hrow,Array.getD,hq']
    ·exact CR0.mono (mo.toB.or X) ((hcs q hq).free (eM hf q)) (cB.noIds _)
   ·exact .viewNone none c 1 none ad 0 hz.symm (fun _ h=>by cases h) (fun _ h=>by cases h) (fun _=>rfl)
  ·have e1:(cs.set j (.view none c len 1 none)).getD i .any=cs.getD i .any:=by
    rw[List.getD_eq_getElem?_getD,List.getElem?_set_ne ei,←List.getD_eq_getElem?_getD]
   rw[e1]
   exact hxi.mono mo
theorem bA.addDead {P:Program} {f:FuncId} {args:List AV} {h h':List aW} {res:AV} (hm:bA P f args h res h'):bA P f args h res (h'++[.dead]):=by
 refine⟨hm.1,fun {X w0 ρ0} m vs hl hv=> ?_⟩
 refine Calls.mono (hm.2 m vs hl hv) ?_
 rintro e w' ⟨v,ρ',rfl,mb,im,m',hx⟩
 obtain⟨hun,m2⟩:=m'.addNil (c0:=.ints .i64 []) rfl
 have mo:=fR w' hun
 have hg:Heap.get (h'++[.live (.ints .i64 [])]) h'.length=.live (.ints .i64 []):=by
  unfold Heap.get
  rw[List.getD_eq_getElem?_getD,List.getElem?_append_right (Nat.le_refl _)];simp
 obtain⟨mo2,m3⟩:=m2.kill (id:=h'.length) (by rw[hg];simp)
 have e:(h'++[aW.live (.ints .i64 [])]).set h'.length .dead=h'++[.dead]:=by
  rw[List.set_append_right _ _ (Nat.le_refl _)];simp
 rw[e]at m3
 exact⟨v,_,rfl,(mb.trans mo.toB).trans mo2.toB,(im.trans mo.ids).trans mo2.ids,m3,(hx.mono mo).mono mo2⟩
end
section
def kpS (b:List Int) (_:Nat) (s:PK×Int):PK×Int:=
 bif pk b s.2 7==0||pk b s.2 7==1 then(bif gN s.1 (1+pk b (s.2+1) 2) (d4L b (s.2+2))then d6 s.1 (1+pk b (s.2+1) 2) (d4L b (s.2+2))else s.1,s.2+6)else
 bif pk b s.2 7==2||(pk b s.2 7==3||pk b s.2 7==4)then(bif s.1.on then(shR s.1 (pk b (s.2+1) 8),s.2+2)else(s.1,s.2+1))else
 bif pk b s.2 7==5 then(gC s.1 (pk b (s.2+1) 8),s.2+2)else
 (bif pk b (s.2+1) 3==0 then cF s.1 else s.1,s.2+2)
theorem HE (b:List Int) (p:Int):aE (d4L b p) 4=true:=by
 have h1:=dR b p (x:=31) (by omega)
 have h2:=dR b (p+1) (x:=4) (by omega)
 have h3:=dR b (p+2) (x:=31) (by omega)
 have h4:=dR b (p+3) (x:=27) (by omega)
 unfold d4L aE a7
 simp only[List.all_cons,List.all_nil,cQ.2 (show 0≤pk b p 31∧pk b p 31≤30 by omega),cQ.2 (show 0≤pk b (p+1) 4∧pk b (p+1) 4≤30 by omega),cQ.2 (show 0≤pk b (p+2) 31∧pk b (p+2) 31≤30 by omega),cQ.2 (show 0≤pk b (p+3) 27∧pk b (p+3) 27≤30 by omega)]
 rfl
theorem DQ (b:List Int) {i:Nat} {s:PK×Int} (h:s.1.ok=true∧0≤s.2):(kpS b i s).1.ok=true∧s.2≤(kpS b i s).2∧(kpS b i s).2≤s.2+6:=by
 obtain⟨h1,h2⟩:=h
 have h8:=dR b (s.2+1) (x:=8) (by omega)
 have hb8:bet (pk b (s.2+1) 8) 0 7=true:=aX.2 (by omega)
 unfold kpS
 cases c1:pk b s.2 7==0||pk b s.2 7==1 with
 |true=>
  rw[cond_true]
  refine⟨?_,by dsimp only;omega,by dsimp only;omega⟩
  cases c2:gN s.1 (1+pk b (s.2+1) 2) (d4L b (s.2+2))with
  |true=>exact QZ c2
  |false=>exact h1
 |false=>
  rw[cond_false]
  cases c3:pk b s.2 7==2||(pk b s.2 7==3||pk b s.2 7==4)with
  |true=>
   rw[cond_true]
   cases ho:s.1.on with
   |true=>exact⟨J5 h1 ho hb8,by rw[cond_true];dsimp only;omega,by rw[cond_true];dsimp only;omega⟩
   |false=>exact⟨h1,by rw[cond_false];dsimp only;omega,by rw[cond_false];dsimp only;omega⟩
  |false=>
   rw[cond_false]
   cases c4:pk b s.2 7==5 with
   |true=>exact⟨LX h1 hb8,by rw[cond_true];dsimp only;omega,by rw[cond_true];dsimp only;omega⟩
   |false=>
    rw[cond_false]
    refine⟨?_,by dsimp only;omega,by dsimp only;omega⟩
    cases c5:pk b (s.2+1) 3==0 with
    |true=>exact LY h1
    |false=>exact h1
theorem q2 (p:Int):p+2+4=p+6:=by omega
theorem l46 (b:List Int) (n:Nat) (p:Int) (x:PK) (N:Nat) (o1:n=b.length) (o2:aZ b=true) (o3:0≤p) (o4:p≤800000) (hN:N≤100) (hx:x.ok=true):
  aS Tryz.prog 1 (.block 0 (.loop (a0 0 (a5 f46)))) (I46 b n p x N) fun e t=>e=.normal∧t=X46 b n (bL (kpS b) N 0 (x,p)).2 (bL (kpS b) N 0 (x,p)).1:=by
 have key:=aS.count hT t71 bK (m:=1) (id:=0) (body:=a0 0 (a5 f46)) N (fun i s=>s.1.ok=true∧0≤s.2∧s.2≤p+6*i) (fun i s=>I46 b n s.2 s.1 ((N:Int)-i)) (fun s=>X46 b n s.2 s.1) (kpS b) (a8 f46 0) (aA f46 0)
  (fun _ _=>[]) (fun _ _ _ _=>aI.nil) (fun i s hi h=> ?_) (fun s h=>⟨_,_,⟨_,_,SV b n s.2 s.1 ((N:Int)-N),by simp,by simp⟩⟩) (x,p) ⟨hx,o3,by simp⟩
 ·have e0:(N:Int)-((0:Nat):Int)=N:=by omega
  rw[e0]at key;exact key
 ·obtain⟨h1,h2,h3⟩:=h
  obtain⟨k1,k2,k3⟩:=DQ b (i:=i) (s:=s) ⟨h1,h2⟩
  refine⟨⟨k1,by omega,by omega⟩, ?_⟩
  obtain⟨x,p'⟩:=s
  dsimp only at h1 h2 h3⊢
  obtain⟨g4,ga,gb,gc⟩:=l4 h1
  have w:IntKind.i64.wrap ((N:Int)-i-1)=(N:Int)-((i+1:Nat):Int):=by rw[dM (by omega) (by omega)];omega
  have hm:(N:Int)-i>0:=by omega
  have h8:=dR b (p'+1) (x:=8) (by omega)
  have hb8:bet (pk b (p'+1) 8) 0 7=true:=aX.2 (by omega)
  have h22:=dR b (p'+1) (x:=2) (by omega)
  have h7:=dR b p' (x:=7) (by omega)
  have w2:IntKind.i64.wrap (1+pk b (p'+1) 2)=1+pk b (p'+1) 2:=aB (by omega) (by omega)
  unfold kpS
  dsimp only
  have hv:pk b p' 7=0∨pk b p' 7=1∨pk b p' 7=2∨pk b p' 7=3∨pk b p' 7=4∨pk b p' 7=5∨pk b p' 7=6:=by omega
  rcases hv with c0|c0|c0|c0|c0|c0|c0
  ·rw[c0]
   show∃f p,Rnd 1 _ _ _ _ (I46 b n (p'+6) (bif gN x (1+pk b (p'+1) 2) (d4L b (p'+2))then d6 x (1+pk b (p'+1) 2) (d4L b (p'+2))else x) _)
   cases c2:gN x (1+pk b (p'+1) 2) (d4L b (p'+2))with
   |true=>
    have c2':gN ⟨x.k,x.a,x.b,x.c,x.on,x.kd,x.d,x.vs⟩ (1+pk b (p'+1) 2) (d4L b (p'+2))=true:=c2
    have e:=Y2 b n p' x ((N:Int)-i)
    simp only[p2,q2,w,w2]at e
    refine⟨_,_,⟨_,_,e, ?_,by simp⟩⟩
    simp only[c0,c2',o1,o2,ga,gb,gc,bS,rpS]
    simp
    omega
   |false=>
    have c2':gN ⟨x.k,x.a,x.b,x.c,x.on,x.kd,x.d,x.vs⟩ (1+pk b (p'+1) 2) (d4L b (p'+2))=false:=c2
    have e:=Y3 b n p' x ((N:Int)-i)
    simp only[p2,q2,w,w2]at e
    refine⟨_,_,⟨_,_,e, ?_,by simp⟩⟩
    simp only[c0,c2',o1,o2,ga,gb,gc,bS,rpS]
    simp
    omega
  ·rw[c0]
   show∃f p,Rnd 1 _ _ _ _ (I46 b n (p'+6) (bif gN x (1+pk b (p'+1) 2) (d4L b (p'+2))then d6 x (1+pk b (p'+1) 2) (d4L b (p'+2))else x) _)
   cases c2:gN x (1+pk b (p'+1) 2) (d4L b (p'+2))with
   |true=>
    have c2':gN ⟨x.k,x.a,x.b,x.c,x.on,x.kd,x.d,x.vs⟩ (1+pk b (p'+1) 2) (d4L b (p'+2))=true:=c2
    have e:=Y4 b n p' x ((N:Int)-i)
    simp only[p2,q2,w,w2]at e
    refine⟨_,_,⟨_,_,e, ?_,by simp⟩⟩
    simp only[c0,c2',o1,o2,ga,gb,gc,bS,rpS]
    simp
    omega
   |false=>
    have c2':gN ⟨x.k,x.a,x.b,x.c,x.on,x.kd,x.d,x.vs⟩ (1+pk b (p'+1) 2) (d4L b (p'+2))=false:=c2
    have e:=Y5 b n p' x ((N:Int)-i)
    simp only[p2,q2,w,w2]at e
    refine⟨_,_,⟨_,_,e, ?_,by simp⟩⟩
    simp only[c0,c2',o1,o2,ga,gb,gc,bS,rpS]
    simp
    omega
  ·rw[c0]
   show∃f p,Rnd 1 _ _ _ _ (I46 b n (bif x.on then(shR x (pk b (p'+1) 8),p'+2)else(x,p'+1)).2 (bif x.on then(shR x (pk b (p'+1) 8),p'+2)else(x,p'+1)).1 _)
   cases ho:x.on with
   |true=>
    have K:=x.onK h1 ho
    have e:=Y6 b n p' x ((N:Int)-i)
    simp only[p2,q2,w,w2]at e
    refine⟨_,_,⟨_,_,e, ?_,by simp⟩⟩
    simp only[c0,ho,K.hkd,K.hd,hb8,o1,o2,ga,gb,gc,bS,rpS]
    simp
    omega
   |false=>
    have e:=Y7 b n p' x ((N:Int)-i)
    simp only[p2,q2,w,w2]at e
    refine⟨_,_,⟨_,_,e, ?_,by simp⟩⟩
    simp only[c0,ho,o1,o2,ga,gb,gc,bS,rpS]
    simp
    omega
  ·rw[c0]
   show∃f p,Rnd 1 _ _ _ _ (I46 b n (bif x.on then(shR x (pk b (p'+1) 8),p'+2)else(x,p'+1)).2 (bif x.on then(shR x (pk b (p'+1) 8),p'+2)else(x,p'+1)).1 _)
   cases ho:x.on with
   |true=>
    have K:=x.onK h1 ho
    have e:=Y8 b n p' x ((N:Int)-i)
    simp only[p2,q2,w,w2]at e
    refine⟨_,_,⟨_,_,e, ?_,by simp⟩⟩
    simp only[c0,ho,K.hkd,K.hd,hb8,o1,o2,ga,gb,gc,bS,rpS]
    simp
    omega
   |false=>
    have e:=Y9 b n p' x ((N:Int)-i)
    simp only[p2,q2,w,w2]at e
    refine⟨_,_,⟨_,_,e, ?_,by simp⟩⟩
    simp only[c0,ho,o1,o2,ga,gb,gc,bS,rpS]
    simp
    omega
  ·rw[c0]
   show∃f p,Rnd 1 _ _ _ _ (I46 b n (bif x.on then(shR x (pk b (p'+1) 8),p'+2)else(x,p'+1)).2 (bif x.on then(shR x (pk b (p'+1) 8),p'+2)else(x,p'+1)).1 _)
   cases ho:x.on with
   |true=>
    have K:=x.onK h1 ho
    have e:=YA b n p' x ((N:Int)-i)
    simp only[p2,q2,w,w2]at e
    refine⟨_,_,⟨_,_,e, ?_,by simp⟩⟩
    simp only[c0,ho,K.hkd,K.hd,hb8,o1,o2,ga,gb,gc,bS,rpS]
    simp
    omega
   |false=>
    have e:=SR b n p' x ((N:Int)-i)
    simp only[p2,q2,w,w2]at e
    refine⟨_,_,⟨_,_,e, ?_,by simp⟩⟩
    simp only[c0,ho,o1,o2,ga,gb,gc,bS,rpS]
    simp
    omega
  ·rw[c0]
   show∃f p,Rnd 1 _ _ _ _ (I46 b n (p'+2) (gC x (pk b (p'+1) 8)) _)
   have e:=SS b n p' x ((N:Int)-i)
   simp only[p2,q2,w,w2]at e
   refine⟨_,_,⟨_,_,e, ?_,by simp⟩⟩
   simp only[c0,o1,o2,ga,gb,gc,bS,rpS]
   simp
   omega
  ·rw[c0]
   show∃f p,Rnd 1 _ _ _ _ (I46 b n (p'+2) (bif pk b (p'+1) 3==0 then cF x else x) _)
   cases c5:pk b (p'+1) 3==0 with
   |true=>
    have e:=ST b n p' x ((N:Int)-i)
    simp only[p2,q2,w,w2]at e
    refine⟨_,_,⟨_,_,e, ?_,by simp⟩⟩
    simp only[c0,c5,o1,o2,ga,gb,gc,bS,rpS]
    simp
    omega
   |false=>
    have e:=SU b n p' x ((N:Int)-i)
    simp only[p2,q2,w,w2]at e
    refine⟨_,_,⟨_,_,e, ?_,by simp⟩⟩
    simp only[c0,c5,o1,o2,ga,gb,gc,bS,rpS]
    simp
    omega
theorem a1T (b:List Int) (n:Nat) (p q:Int) (x y:PK) (m:Int):aD tt (a9 T71) ([(0,⟨a8 f46 0,I46 b n (p+1+4+1) (snK (IntKind.i64.wrap (1+pk b p 2)) (d4L b (p+1)) 1) (pk b (p+1+4) 14),.normal,X46 b n q y⟩)]) 100 f46 [.c (.ptr 0 0 0 0)] [.live (.cells [.view none (.ints .u8 b) n 1 none,.int .i64 p])] [(0,true)]=
  some ⟨.agg [.int .i64 y.1,.sl 1 0 y.2.length 1 none,.sl 2 0 y.3.length 1 none,.sl 3 0 y.4.length 1 none,.bool y.5,.int .i64 y.6,.sl 4 0 y.7.length 1 none,.int .i64 y.8],[.live (.cells [.view none (.ints .u8 b) n 1 none,.int .i64 (nmV b (q+1+1)).snd]),.live (.ints .i64 (y.2.set (pk b (q+1) 8).toNat (nmV b (q+1+1)).fst)),.live (.ints .i64 y.3),.live (.bools y.4),.live (.ints .i64 y.7)],(decide (n=b.length)&&(aZ b&&(decide (0≤p)&&(decide (p≤1000000)&&(decide (n=b.length)&&(aZ b&&(decide (0≤p+1)&&(decide (p+1≤900000)&&(decide (n=b.length)&&(aZ b&&(decide (0≤p+1+4)&&(decide (p+1+4≤1000000)&&(decide (n=b.length)&&(aZ b&&(decide (0≤q)&&(decide (q≤1000000)&&((pk b q 30==0)&&(decide (n=b.length)&&(aZ b&&(decide (0≤q+1)&&(decide (q+1≤1000000)&&(decide (n=b.length)&&(aZ b&&(decide (0≤q+1+1)&&(decide (q+1+1≤900000)&&(decide (0≤pk b (q+1) 8)&&(decide (pk b (q+1) 8<(↑y.2.length:Int))&&((decide ((pk b (q+1) 8).toNat<y.2.length))&&true)))))))))))))))))))))))))))),[I46 b n (p+1+4+1) (snK (IntKind.i64.wrap (1+pk b p 2)) (d4L b (p+1)) 1) (pk b (p+1+4) 14)=I46 b n (p+1+4+1) (snK (IntKind.i64.wrap (1+pk b p 2)) (d4L b (p+1)) 1) (pk b (p+1+4) 14)]⟩:=by kernel_rfl
theorem a1U (b:List Int) (n:Nat) (p q:Int) (x y:PK) (m:Int):aD tt (a9 T71) ([(0,⟨a8 f46 0,I46 b n (p+1+4+1) (snK (IntKind.i64.wrap (1+pk b p 2)) (d4L b (p+1)) 1) (pk b (p+1+4) 14),.normal,X46 b n q y⟩)]) 100 f46 [.c (.ptr 0 0 0 0)] [.live (.cells [.view none (.ints .u8 b) n 1 none,.int .i64 p])] [(0,false),(0,true)]=
  some ⟨.agg [.int .i64 y.1,.sl 1 0 y.2.length 1 none,.sl 2 0 y.3.length 1 none,.sl 3 0 y.4.length 1 none,.bool y.5,.int .i64 y.6,.sl 4 0 y.7.length 1 none,.int .i64 (pk b (q+1) 5)],[.live (.cells [.view none (.ints .u8 b) n 1 none,.int .i64 (q+1+1)]),.live (.ints .i64 y.2),.live (.ints .i64 y.3),.live (.bools y.4),.live (.ints .i64 y.7)],(decide (n=b.length)&&(aZ b&&(decide (0≤p)&&(decide (p≤1000000)&&(decide (n=b.length)&&(aZ b&&(decide (0≤p+1)&&(decide (p+1≤900000)&&(decide (n=b.length)&&(aZ b&&(decide (0≤p+1+4)&&(decide (p+1+4≤1000000)&&(decide (n=b.length)&&(aZ b&&(decide (0≤q)&&(decide (q≤1000000)&&((!pk b q 30==0)&&((pk b q 30==1)&&(decide (n=b.length)&&(aZ b&&(decide (0≤q+1)&&((decide (q+1≤1000000))&&true)))))))))))))))))))))),[I46 b n (p+1+4+1) (snK (IntKind.i64.wrap (1+pk b p 2)) (d4L b (p+1)) 1) (pk b (p+1+4) 14)=I46 b n (p+1+4+1) (snK (IntKind.i64.wrap (1+pk b p 2)) (d4L b (p+1)) 1) (pk b (p+1+4) 14)]⟩:=by kernel_rfl
theorem a1V (b:List Int) (n:Nat) (p q:Int) (x y:PK) (m:Int):aD tt (a9 T71) ([(0,⟨a8 f46 0,I46 b n (p+1+4+1) (snK (IntKind.i64.wrap (1+pk b p 2)) (d4L b (p+1)) 1) (pk b (p+1+4) 14),.normal,X46 b n q y⟩)]) 100 f46 [.c (.ptr 0 0 0 0)] [.live (.cells [.view none (.ints .u8 b) n 1 none,.int .i64 p])] [(0,false),(0,false),(0,true)]=
  some ⟨.agg [.int .i64 y.1,.sl 1 0 y.2.length 1 none,.sl 2 0 y.3.length 1 none,.sl 3 0 y.4.length 1 none,.bool !y.5,.int .i64 y.6,.sl 4 0 y.7.length 1 none,.int .i64 y.8],[.live (.cells [.view none (.ints .u8 b) n 1 none,.int .i64 (q+1)]),.live (.ints .i64 y.2),.live (.ints .i64 y.3),.live (.bools y.4),.live (.ints .i64 y.7)],(decide (n=b.length)&&(aZ b&&(decide (0≤p)&&(decide (p≤1000000)&&(decide (n=b.length)&&(aZ b&&(decide (0≤p+1)&&(decide (p+1≤900000)&&(decide (n=b.length)&&(aZ b&&(decide (0≤p+1+4)&&(decide (p+1+4≤1000000)&&(decide (n=b.length)&&(aZ b&&(decide (0≤q)&&(decide (q≤1000000)&&((!pk b q 30==0)&&((!pk b q 30==1)&&((pk b q 30==2)&&true))))))))))))))))))),[I46 b n (p+1+4+1) (snK (IntKind.i64.wrap (1+pk b p 2)) (d4L b (p+1)) 1) (pk b (p+1+4) 14)=I46 b n (p+1+4+1) (snK (IntKind.i64.wrap (1+pk b p 2)) (d4L b (p+1)) 1) (pk b (p+1+4) 14)]⟩:=by kernel_rfl
theorem a1W (b:List Int) (n:Nat) (p q:Int) (x y:PK) (m:Int):aD tt (a9 T71) ([(0,⟨a8 f46 0,I46 b n (p+1+4+1) (snK (IntKind.i64.wrap (1+pk b p 2)) (d4L b (p+1)) 1) (pk b (p+1+4) 14),.normal,X46 b n q y⟩)]) 100 f46 [.c (.ptr 0 0 0 0)] [.live (.cells [.view none (.ints .u8 b) n 1 none,.int .i64 p])] [(0,false),(0,false),(0,false),(0,true)]=
  some ⟨.agg [.int .i64 y.1,.sl 1 0 y.2.length 1 none,.sl 2 0 y.3.length 1 none,.sl 3 0 y.4.length 1 none,.bool y.5,.int .i64 y.6,.view none (.ints .i64 (vcL b (q+1)).fst) (vcL b (q+1)).fst.length 1 none,.int .i64 y.8],[.live (.cells [.view none (.ints .u8 b) n 1 none,.int .i64 (vcL b (q+1)).snd]),.live (.ints .i64 y.2),.live (.ints .i64 y.3),.live (.bools y.4)],(decide (n=b.length)&&(aZ b&&(decide (0≤p)&&(decide (p≤1000000)&&(decide (n=b.length)&&(aZ b&&(decide (0≤p+1)&&(decide (p+1≤900000)&&(decide (n=b.length)&&(aZ b&&(decide (0≤p+1+4)&&(decide (p+1+4≤1000000)&&(decide (n=b.length)&&(aZ b&&(decide (0≤q)&&(decide (q≤1000000)&&((!pk b q 30==0)&&((!pk b q 30==1)&&((!pk b q 30==2)&&((pk b q 30==3)&&(decide (n=b.length)&&(aZ b&&(decide (0≤q+1)&&((decide (q+1≤900000))&&true)))))))))))))))))))))))),[I46 b n (p+1+4+1) (snK (IntKind.i64.wrap (1+pk b p 2)) (d4L b (p+1)) 1) (pk b (p+1+4) 14)=I46 b n (p+1+4+1) (snK (IntKind.i64.wrap (1+pk b p 2)) (d4L b (p+1)) 1) (pk b (p+1+4) 14)]⟩:=by kernel_rfl
theorem a1X (b:List Int) (n:Nat) (p q:Int) (x y:PK) (m:Int):aD tt (a9 T71) ([(0,⟨a8 f46 0,I46 b n (p+1+4+1) (snK (IntKind.i64.wrap (1+pk b p 2)) (d4L b (p+1)) 1) (pk b (p+1+4) 14),.normal,X46 b n q y⟩)]) 100 f46 [.c (.ptr 0 0 0 0)] [.live (.cells [.view none (.ints .u8 b) n 1 none,.int .i64 p])] [(0,false),(0,false),(0,false),(0,false)]=
  some ⟨.agg [.int .i64 y.1,.sl 1 0 y.2.length 1 none,.sl 2 0 y.3.length 1 none,.sl 3 0 y.4.length 1 none,.bool y.5,.int .i64 y.6,.sl 4 0 y.7.length 1 none,.int .i64 y.8],[.live (.cells [.view none (.ints .u8 b) n 1 none,.int .i64 (q+1)]),.live (.ints .i64 y.2),.live (.ints .i64 y.3),.live (.bools y.4),.live (.ints .i64 y.7)],(decide (n=b.length)&&(aZ b&&(decide (0≤p)&&(decide (p≤1000000)&&(decide (n=b.length)&&(aZ b&&(decide (0≤p+1)&&(decide (p+1≤900000)&&(decide (n=b.length)&&(aZ b&&(decide (0≤p+1+4)&&(decide (p+1+4≤1000000)&&(decide (n=b.length)&&(aZ b&&(decide (0≤q)&&(decide (q≤1000000)&&((!pk b q 30==0)&&((!pk b q 30==1)&&((!pk b q 30==2)&&((!pk b q 30==3)&&true)))))))))))))))))))),[I46 b n (p+1+4+1) (snK (IntKind.i64.wrap (1+pk b p 2)) (d4L b (p+1)) 1) (pk b (p+1+4) 14)=I46 b n (p+1+4+1) (snK (IntKind.i64.wrap (1+pk b p 2)) (d4L b (p+1)) 1) (pk b (p+1+4) 14)]⟩:=by kernel_rfl
end
section
def PK.vcells (x:PK):List aF:=[.int .i64 x.k,.view none (.ints .i64 x.a) x.a.length 1 none,.view none (.ints .i64 x.b) x.b.length 1 none,.view none (.bools x.c) x.c.length 1 none,.bool x.on,.int .i64 x.kd,.view none (.ints .i64 x.d) x.d.length 1 none,.int .i64 x.vs]
theorem DN {P:Program} {f:FuncId} {args:List AV} {h:List aW} {s:aW} {x:PK} (hm:bA P f args h (.agg [.int .i64 x.k,.sl 1 0 x.a.length 1 none,.sl 2 0 x.b.length 1 none,.sl 3 0 x.c.length 1 none,.bool x.on,.int .i64 x.kd,.sl 4 0 x.d.length 1 none,.int .i64 x.vs]) [s,.live (.ints .i64 x.a),.live (.ints .i64 x.b),.live (.bools x.c),.live (.ints .i64 x.d)]):
  bA P f args h (.agg x.vcells) [s,.dead,.dead,.dead,.dead]:=
 (((hm.froz1 (j:=1) (id:=1) (c:=.ints .i64 x.a) rfl (by show 1<8;omega) rfl rfl rfl).froz1 (j:=2) (id:=2) (c:=.ints .i64 x.b) rfl (by show 2<8;omega) rfl rfl rfl).froz1 (j:=3) (id:=3) (c:=.bools x.c) rfl (by show 3<8;omega) rfl rfl rfl).froz1 (j:=6) (id:=4) (c:=.ints .i64 x.d) rfl (by show 6<8;omega) rfl rfl rfl
theorem QC {P:Program} {f:FuncId} {args:List AV} {h:List aW} {s:aW} {x:PK} (hm:bA P f args h (.agg [.int .i64 x.k,.sl 1 0 x.a.length 1 none,.sl 2 0 x.b.length 1 none,.sl 3 0 x.c.length 1 none,.bool x.on,.int .i64 x.kd,.view none (.ints .i64 x.d) x.d.length 1 none,.int .i64 x.vs]) [s,.live (.ints .i64 x.a),.live (.ints .i64 x.b),.live (.bools x.c)]):
  bA P f args h (.agg x.vcells) [s,.dead,.dead,.dead,.dead]:=
 (((hm.froz1 (j:=1) (id:=1) (c:=.ints .i64 x.a) rfl (by show 1<8;omega) rfl rfl rfl).froz1 (j:=2) (id:=2) (c:=.ints .i64 x.b) rfl (by show 2<8;omega) rfl rfl rfl).froz1 (j:=3) (id:=3) (c:=.bools x.c) rfl (by show 3<8;omega) rfl rfl rfl).addDead
def kdT (b:List Int) (y:PK) (q:Int):PK×Int:=
 bif pk b q 30==0 then(⟨y.k,y.a.set (pk b (q+1) 8).toNat (nmV b (q+2)).1,y.b,y.c,y.on,y.kd,y.d,y.vs⟩,(nmV b (q+2)).2)else
 bif pk b q 30==1 then(⟨y.k,y.a,y.b,y.c,y.on,y.kd,y.d,pk b (q+1) 5⟩,q+2)else
 bif pk b q 30==2 then(⟨y.k,y.a,y.b,y.c, !y.on,y.kd,y.d,y.vs⟩,q+1)else
 bif pk b q 30==3 then(⟨y.k,y.a,y.b,y.c,y.on,y.kd,(vcL b (q+1)).1,y.vs⟩,(vcL b (q+1)).2)else(y,q+1)
def kdS (b:List Int) (p:Int):PK×Int:=bL (kpS b) (pk b (p+5) 14).toNat 0 (snK (1+pk b p 2) (d4L b (p+1)) 1,p+6)
def kdr (b:List Int) (p:Int):PK×Int:=kdT b (kdS b p).1 (kdS b p).2
theorem DO (b:List Int) {p:Int} (h0:0≤p):(kdS b p).1.ok=true∧p≤(kdS b p).2∧(kdS b p).2≤p+100:=by
 have h2:=dR b p (x:=2) (by omega)
 have h14:=dR b (p+5) (x:=14) (by omega)
 have hs:snB (1+pk b p 2) (d4L b (p+1)) 1=true:=by
  unfold snB
  rw[aX.2 (show 1≤1+pk b p 2∧1+pk b p 2≤2 by omega),HE];rfl
 have key:=bB (step:=kpS b) (fun i s=>s.1.ok=true∧p+6≤s.2∧s.2≤p+6+6*i) (pk b (p+5) 14).toNat (snK (1+pk b p 2) (d4L b (p+1)) 1,p+6) ⟨J4 hs,by dsimp only;omega,by dsimp only;omega⟩ fun i s _ h=>by
  obtain⟨k1,k2,k3⟩:=DQ b (i:=i) (s:=s) ⟨h.1,by omega⟩
  exact⟨k1,by omega,by omega⟩
 unfold kdS
 exact⟨key.1,by omega,by omega⟩
def FZ:aN:=fun args h=>
 match args,h with
 |[.c (.ptr 0 0 0 0)],[.live (.cells [.view none (.ints .u8 b) n 1 none,.int .i64 p])]=>
  some (.agg (kdr b p).1.vcells,[.live (.cells [.view none (.ints .u8 b) n 1 none,.int .i64 (kdr b p).2]),.dead,.dead,.dead,.dead],[decide (n=b.length),aZ b,decide (0≤p),decide (p≤700000)])
 |_,_=>none
theorem m46:aP Tryz.prog 46 FZ:=by
 intro args h res h' o he ho
 unfold FZ at he
 split at he
 case h_2=>cases he
 rename_i b n p
 simp only[Option.some.injEq,Prod.mk.injEq]at he
 obtain⟨rfl,rfl,rfl⟩:=he
 simp only[List.mem_cons,List.not_mem_nil,or_false,forall_eq_or_imp,forall_eq,decide_eq_true_eq]at ho
 obtain⟨o1,o2,o3,o4⟩:=ho
 have h2:=dR b p (x:=2) (by omega)
 have h14:=dR b (p+5) (x:=14) (by omega)
 obtain⟨i1,i2,i3⟩:=DO b o3
 obtain⟨g4,ga,gb,gc⟩:=l4 i1
 have hs:snB (1+pk b p 2) (d4L b (p+1)) 1=true:=by
  unfold snB
  rw[aX.2 (show 1≤1+pk b p 2∧1+pk b p 2≤2 by omega),HE];rfl
 have w2:IntKind.i64.wrap (1+pk b p 2)=1+pk b p 2:=aB (by omega) (by omega)
 have e6:p+1+4+1=p+6:=by omega
 have e5:p+1+4=p+5:=by omega
 have g:=l46 b n (p+6) (snK (1+pk b p 2) (d4L b (p+1)) 1) (pk b (p+5) 14).toNat o1 o2 (by omega) (by omega) (by omega) (J4 hs)
 rw[show(((pk b (p+5) 14).toNat:Nat):Int)=pk b (p+5) 14 from by omega]at g
 have g':aS Tryz.prog 1 (.block 0 (.loop (a0 0 (a5 f46)))) (I46 b n (p+1+4+1) (snK (IntKind.i64.wrap (1+pk b p 2)) (d4L b (p+1)) 1) (pk b (p+1+4) 14)) fun e t=>e=.normal∧t=X46 b n (kdS b p).2 (kdS b p).1:=by
  rw[w2,e5,show p+5+1=p+6 from by omega];exact g
 have lo: ∀cc,a5 f46=cc→aI Tryz.prog 1 [(0,⟨a8 f46 0,I46 b n (p+1+4+1) (snK (IntKind.i64.wrap (1+pk b p 2)) (d4L b (p+1)) 1) (pk b (p+1+4) 14),.normal,X46 b n (kdS b p).2 (kdS b p).1⟩)] cc:=fun cc h=>by
  subst h;exact aI.cons (by kernel_rfl) g' aI.nil
 unfold kdr
 revert i1 i2 i3 ga gb gc g4 lo
 clear g g'
 generalize (kdS b p).1=y
 generalize (kdS b p).2=q
 intro i1 i2 i3 g4 ga gb gc lo
 have h8:=dR b (q+1) (x:=8) (by omega)
 unfold kdT
 cases c1:pk b q 30==0 with
 |true=>
  have e:=a1T b n p q (snK (1+pk b p 2) (d4L b (p+1)) 1) y 0
  have el:y.a.length=(y.a.set (pk b (q+1) 8).toNat (nmV b (q+2)).1).length:=List.length_set.symm
  have mm:=mo (f:=46) (fn:=f46) t71 e (by simp only[c1,o1,o2,ga,bS,rpS];omega) (hlc:=(fun cc hcc=>lo cc (by cases hcc;rfl)))
  rw[show q+1+1=q+2 from by omega,el]at mm
  exact DN (x:=⟨y.k,y.a.set (pk b (q+1) 8).toNat (nmV b (q+2)).1,y.b,y.c,y.on,y.kd,y.d,y.vs⟩) mm
 |false=>
  cases c2:pk b q 30==1 with
  |true=>
   have e:=a1U b n p q (snK (1+pk b p 2) (d4L b (p+1)) 1) y 0
   have mm:=mo (f:=46) (fn:=f46) t71 e (by simp only[c1,c2,o1,o2,ga,bS,rpS];omega) (hlc:=(fun cc hcc=>lo cc (by cases hcc;rfl)))
   rw[show q+1+1=q+2 from by omega]at mm
   exact DN (x:=⟨y.k,y.a,y.b,y.c,y.on,y.kd,y.d,pk b (q+1) 5⟩) mm
  |false=>
   cases c3:pk b q 30==2 with
   |true=>
    have e:=a1V b n p q (snK (1+pk b p 2) (d4L b (p+1)) 1) y 0
    have mm:=mo (f:=46) (fn:=f46) t71 e (by simp only[c1,c2,c3,o1,o2,ga,bS,rpS];omega) (hlc:=(fun cc hcc=>lo cc (by cases hcc;rfl)))
    exact DN (x:=⟨y.k,y.a,y.b,y.c, !y.on,y.kd,y.d,y.vs⟩) mm
   |false=>
    cases c4:pk b q 30==3 with
    |true=>
     have e:=a1W b n p q (snK (1+pk b p 2) (d4L b (p+1)) 1) y 0
     have mm:=mo (f:=46) (fn:=f46) t71 e (by simp only[c1,c2,c3,c4,o1,o2,ga,bS,rpS];omega) (hlc:=(fun cc hcc=>lo cc (by cases hcc;rfl)))
     exact QC (x:=⟨y.k,y.a,y.b,y.c,y.on,y.kd,(vcL b (q+1)).1,y.vs⟩) mm
    |false=>
     have e:=a1X b n p q (snK (1+pk b p 2) (d4L b (p+1)) 1) y 0
     have mm:=mo (f:=46) (fn:=f46) t71 e (by simp only[c1,c2,c3,c4,o1,o2,ga,bS,rpS];omega) (hlc:=(fun cc hcc=>lo cc (by cases hcc;rfl)))
     exact DN (x:=y) mm
noncomputable def T72:List bD:=[⟨46,[0],FZ⟩]++T71
theorem e72:a6 Tryz.prog T72:=by
 refine a6.append ?_ e71
 intro e he
 simp only[List.mem_cons,List.not_mem_nil,or_false]at he
 subst he;exact m46
end
section
theorem iZ {b:List Int} (h:aZ b=true) (n:Nat):aZ (b.take n)=true:=by
 unfold aZ at h⊢
 rw[List.all_eq_true]at h⊢
 exact fun x hx=>h x (List.mem_of_mem_take hx)
theorem TB (b:List Int) {p:Int}:(vcL b p).1.length≤4∧p≤(vcL b p).2∧(vcL b p).2≤p+19:=by
 unfold vcL
 cases pk b (p+16) 40==0 with
 |true=>rw[cond_true];exact⟨by show 3≤4;omega,by dsimp only;omega,by dsimp only;omega⟩
 |false=>
  rw[cond_false]
  cases pk b (p+16) 40==1 with
  |true=>rw[cond_true];exact⟨by dsimp only;rw[List.length_set];exact Nat.le_refl 4,by dsimp only;omega,by dsimp only;omega⟩
  |false=>rw[cond_false];exact⟨Nat.le_refl 4,by dsimp only;omega,by dsimp only;omega⟩
theorem QX (b:List Int) (p:Int):p≤(nmV b p).2∧(nmV b p).2≤p+3:=by
 unfold nmV
 cases pk b p 10==0 with
 |true=>rw[cond_true];dsimp only;omega
 |false=>
  rw[cond_false]
  cases pk b p 10==1 with
  |true=>rw[cond_true];dsimp only;omega
  |false=>
   rw[cond_false]
   cases pk b p 10==2 with
   |false=>rw[cond_false];dsimp only;omega
   |true=>
    rw[cond_true]
    cases pk b (p+1) 5==0
    ·rw[cond_false];dsimp only;omega
    ·rw[cond_true];dsimp only;omega
def PK.sz (x:PK):Prop:=x.a.length=8∧x.b.length=8∧x.c.length=8∧x.d.length≤4
theorem HV (b:List Int) {p:Int} (h0:0≤p):(kdr b p).1.sz∧p≤(kdr b p).2∧(kdr b p).2≤p+130:=by
 obtain⟨i1,i2,i3⟩:=DO b h0
 obtain⟨g4,ga,gb,gc⟩:=l4 i1
 unfold kdr kdT
 generalize (kdS b p).1=y at*
 generalize (kdS b p).2=q at*
 cases pk b q 30==0 with
 |true=>
  have:=QX b (q+2)
  rw[cond_true]
  exact⟨⟨by dsimp only;rw[List.length_set];exact ga,gb,gc,g4⟩,by dsimp only;omega,by dsimp only;omega⟩
 |false=>
  rw[cond_false]
  cases pk b q 30==1 with
  |true=>rw[cond_true];exact⟨⟨ga,gb,gc,g4⟩,by dsimp only;omega,by dsimp only;omega⟩
  |false=>
   rw[cond_false]
   cases pk b q 30==2 with
   |true=>rw[cond_true];exact⟨⟨ga,gb,gc,g4⟩,by dsimp only;omega,by dsimp only;omega⟩
   |false=>
    rw[cond_false]
    cases pk b q 30==3 with
    |true=>
     have:=TB b (p:=q+1)
     rw[cond_true];exact⟨⟨ga,gb,gc,this.1⟩,by dsimp only;omega,by dsimp only;omega⟩
    |false=>rw[cond_false];exact⟨⟨ga,gb,gc,g4⟩,by dsimp only;omega,by dsimp only;omega⟩
def dkR (b:List Int):PK:=(kdr (b.take 2000) 0).1
end
section
theorem OW {P:Program} {f:FuncId} {args:List AV} {x:PK} (hm:bA P f args [] (.agg x.cells) [.live (.ints .i64 x.a),.live (.ints .i64 x.b),.live (.bools x.c),.live (.ints .i64 x.d)]):bA P f args [] (.agg x.vcells) []:=
 hm.views (o:=[decide (x.a.length=x.a.length),decide (x.b.length=x.b.length),decide (x.c.length=x.c.length),decide (x.d.length=x.d.length)]) rfl (by simp)
def BF:aN:=fun args h=>
 match args,h with
 |[.agg [.int .i64 k,.view _ (.ints .i64 a) n1 1 _,.view _ (.ints .i64 b) n2 1 _,.view _ (.bools c) n3 1 _,.bool on,.int .i64 kd,.view _ (.ints .i64 d) n4 1 _,.int .i64 vs],.c (.int .i64 x)],[]=>
  some (.agg (shR ⟨k,a,b,c,on,kd,d,vs⟩ x).vcells,[],[decide (a.length=8),decide (b.length=8),decide (c.length=8),bet kd 1 2,aE d 4,bet x 0 7])
 |_,_=>none
theorem a6V:aT Tryz.prog 105 BF:=by
 intro args h res h' o hnorm he ho
 unfold BF at he
 split at he
 case h_2=>cases he
 rename_i k nl1 a n1 cap1 nl2 b n2 cap2 nl3 c n3 cap3 on kd nl4 d n4 cap4 vs x
 simp only[Option.some.injEq,Prod.mk.injEq]at he
 obtain⟨rfl,rfl,rfl⟩:=he
 simp only[List.mem_cons,List.not_mem_nil,or_false,forall_eq_or_imp,forall_eq,decide_eq_true_eq]at ho
 obtain⟨o1,o2,o3,o4,o5,o6⟩:=ho
 exact OW (m52 _ _ _ _ _ hnorm rfl (by simp[o1,o2,o3,o4,o5,o6]))
def rR:aN:=fun args h=>
 match args,h with
 |[.agg [.int .i64 k,.view _ (.ints .i64 a) n1 1 _,.view _ (.ints .i64 b) n2 1 _,.view _ (.bools c) n3 1 _,.bool on,.int .i64 kd,.view _ (.ints .i64 d) n4 1 _,.int .i64 vs]],[]=>
  some (.agg (cF ⟨k,a,b,c,on,kd,d,vs⟩).vcells,[],[decide (a.length≤274877906944),decide (d.length≤274877906944)])
 |_,_=>none
theorem a6S:aT Tryz.prog 64 rR:=by
 intro args h res h' o hnorm he ho
 unfold rR at he
 split at he
 case h_2=>cases he
 rename_i k nl1 a n1 cap1 nl2 b n2 cap2 nl3 c n3 cap3 on kd nl4 d n4 cap4 vs
 simp only[Option.some.injEq,Prod.mk.injEq]at he
 obtain⟨rfl,rfl,rfl⟩:=he
 simp only[List.mem_cons,List.not_mem_nil,or_false,forall_eq_or_imp,forall_eq,decide_eq_true_eq]at ho
 obtain⟨o1,o2⟩:=ho
 exact OW (m18 _ _ _ _ _ hnorm rfl (by simp[o1,o2]))
noncomputable def T73:List bD:=[⟨105,[],nm BF⟩,⟨64,[],nm rR⟩]++T72
theorem e73:a6 Tryz.prog T73:=by
 refine a6.append ?_ e72
 intro e he
 simp only[List.mem_cons,List.not_mem_nil,or_false]at he
 rcases he with rfl|rfl
 ·exact a6V.ok
 ·exact a6S.ok
theorem t73:bJ Tryz.prog (a9 T73):=aM e73
theorem V2 (b:List Int):aD tt (a9 T73) ([]) 100 Tryz.f16 [.c (.view none (.ints .u8 b) b.length 1 none)] [] [(0,true),(0,true),(0,true)]=
  some ⟨.tup [.agg [.int .i64 (kdr (List.take 2000 b) ((kdr (List.take 2000 b) 0).snd+1)).1.1,.view none (.ints .i64 (kdr (List.take 2000 b) ((kdr (List.take 2000 b) 0).snd+1)).1.2) (kdr (List.take 2000 b) ((kdr (List.take 2000 b) 0).snd+1)).1.2.length 1 none,.view none (.ints .i64 (kdr (List.take 2000 b) ((kdr (List.take 2000 b) 0).snd+1)).1.3) (kdr (List.take 2000 b) ((kdr (List.take 2000 b) 0).snd+1)).1.3.length 1 none,.view none (.bools (kdr (List.take 2000 b) ((kdr (List.take 2000 b) 0).snd+1)).1.4) (kdr (List.take 2000 b) ((kdr (List.take 2000 b) 0).snd+1)).1.4.length 1 none,.bool (kdr (List.take 2000 b) ((kdr (List.take 2000 b) 0).snd+1)).1.5,.int .i64 (kdr (List.take 2000 b) ((kdr (List.take 2000 b) 0).snd+1)).1.6,.view none (.ints .i64 (kdr (List.take 2000 b) ((kdr (List.take 2000 b) 0).snd+1)).1.7) (kdr (List.take 2000 b) ((kdr (List.take 2000 b) 0).snd+1)).1.7.length 1 none,.int .i64 (kdr (List.take 2000 b) ((kdr (List.take 2000 b) 0).snd+1)).1.8],.c (.int .i64 (kdV (List.take 2000 b) (kdr (List.take 2000 b) ((kdr (List.take 2000 b) 0).snd+1)).snd)),.c (.view none (.ints .i64 (vcL (List.take 2000 b) ((kdr (List.take 2000 b) ((kdr (List.take 2000 b) 0).snd+1)).snd+2)).fst) (vcL (List.take 2000 b) ((kdr (List.take 2000 b) ((kdr (List.take 2000 b) 0).snd+1)).snd+2)).fst.length 1 none)],[],(decide ((List.take 2000 b).length=(List.take 2000 b).length)&&(aZ (List.take 2000 b)&&(rp2 ((kdr (List.take 2000 b) 0).1.5) (decide ((List.take 2000 b).length=(List.take 2000 b).length)&&(aZ (List.take 2000 b)&&(decide (0≤(kdr (List.take 2000 b) 0).snd)&&(decide ((kdr (List.take 2000 b) 0).snd≤1000000)&&(((kdr (List.take 2000 b) 0).1.5)&&((bif (kdr (List.take 2000 b) 0).1.5 then decide (pk (List.take 2000 b) (kdr (List.take 2000 b) 0).snd 3>0)else false)&&(decide ((kdr (List.take 2000 b) 0).1.2.length≤274877906944)&&(decide ((kdr (List.take 2000 b) 0).1.7.length≤274877906944)&&(((↑(cF {k:=(kdr (List.take 2000 b) 0).1.1,a:=(kdr (List.take 2000 b) 0).1.2,b:=(kdr (List.take 2000 b) 0).1.3,c:=(kdr (List.take 2000 b) 0).1.4,on:=(kdr (List.take 2000 b) 0).1.5,kd:=(kdr (List.take 2000 b) 0).1.6,d:=(kdr (List.take 2000 b) 0).1.7,vs:=(kdr (List.take 2000 b) 0).1.8}).b.length:Int)==0)&&(decide ((List.take 2000 b).length=(List.take 2000 b).length)&&(aZ (List.take 2000 b)&&(decide (0≤(kdr (List.take 2000 b) 0).snd+1)&&(decide ((kdr (List.take 2000 b) 0).snd+1≤700000)&&(decide ((List.take 2000 b).length=(List.take 2000 b).length)&&(aZ (List.take 2000 b)&&(decide (0≤(kdr (List.take 2000 b) ((kdr (List.take 2000 b) 0).snd+1)).snd)&&(decide ((kdr (List.take 2000 b) ((kdr (List.take 2000 b) 0).snd+1)).snd≤900000)&&(decide ((List.take 2000 b).length=(List.take 2000 b).length)&&(aZ (List.take 2000 b)&&(decide (0≤(kdr (List.take 2000 b) ((kdr (List.take 2000 b) 0).snd+1)).snd+2)&&((decide ((kdr (List.take 2000 b) ((kdr (List.take 2000 b) 0).snd+1)).snd+2≤900000))&&true)))))))))))))))))))))))),[]⟩:=by kernel_rfl
theorem V3 (b:List Int):aD tt (a9 T73) ([]) 100 Tryz.f16 [.c (.view none (.ints .u8 b) b.length 1 none)] [] [(0,true),(0,true),(0,false)]=
  some ⟨.tup [.agg [.int .i64 (cF {k:=(kdr (List.take 2000 b) 0).1.1,a:=(kdr (List.take 2000 b) 0).1.2,b:=(kdr (List.take 2000 b) 0).1.3,c:=(kdr (List.take 2000 b) 0).1.4,on:=(kdr (List.take 2000 b) 0).1.5,kd:=(kdr (List.take 2000 b) 0).1.6,d:=(kdr (List.take 2000 b) 0).1.7,vs:=(kdr (List.take 2000 b) 0).1.8}).k,.view none (.ints .i64 (cF {k:=(kdr (List.take 2000 b) 0).1.1,a:=(kdr (List.take 2000 b) 0).1.2,b:=(kdr (List.take 2000 b) 0).1.3,c:=(kdr (List.take 2000 b) 0).1.4,on:=(kdr (List.take 2000 b) 0).1.5,kd:=(kdr (List.take 2000 b) 0).1.6,d:=(kdr (List.take 2000 b) 0).1.7,vs:=(kdr (List.take 2000 b) 0).1.8}).a) (cF {k:=(kdr (List.take 2000 b) 0).1.1,a:=(kdr (List.take 2000 b) 0).1.2,b:=(kdr (List.take 2000 b) 0).1.3,c:=(kdr (List.take 2000 b) 0).1.4,on:=(kdr (List.take 2000 b) 0).1.5,kd:=(kdr (List.take 2000 b) 0).1.6,d:=(kdr (List.take 2000 b) 0).1.7,vs:=(kdr (List.take 2000 b) 0).1.8}).a.length 1 none,.view none (.ints .i64 (cF {k:=(kdr (List.take 2000 b) 0).1.1,a:=(kdr (List.take 2000 b) 0).1.2,b:=(kdr (List.take 2000 b) 0).1.3,c:=(kdr (List.take 2000 b) 0).1.4,on:=(kdr (List.take 2000 b) 0).1.5,kd:=(kdr (List.take 2000 b) 0).1.6,d:=(kdr (List.take 2000 b) 0).1.7,vs:=(kdr (List.take 2000 b) 0).1.8}).b) (cF {k:=(kdr (List.take 2000 b) 0).1.1,a:=(kdr (List.take 2000 b) 0).1.2,b:=(kdr (List.take 2000 b) 0).1.3,c:=(kdr (List.take 2000 b) 0).1.4,on:=(kdr (List.take 2000 b) 0).1.5,kd:=(kdr (List.take 2000 b) 0).1.6,d:=(kdr (List.take 2000 b) 0).1.7,vs:=(kdr (List.take 2000 b) 0).1.8}).b.length 1 none,.view none (.bools (cF {k:=(kdr (List.take 2000 b) 0).1.1,a:=(kdr (List.take 2000 b) 0).1.2,b:=(kdr (List.take 2000 b) 0).1.3,c:=(kdr (List.take 2000 b) 0).1.4,on:=(kdr (List.take 2000 b) 0).1.5,kd:=(kdr (List.take 2000 b) 0).1.6,d:=(kdr (List.take 2000 b) 0).1.7,vs:=(kdr (List.take 2000 b) 0).1.8}).c) (cF {k:=(kdr (List.take 2000 b) 0).1.1,a:=(kdr (List.take 2000 b) 0).1.2,b:=(kdr (List.take 2000 b) 0).1.3,c:=(kdr (List.take 2000 b) 0).1.4,on:=(kdr (List.take 2000 b) 0).1.5,kd:=(kdr (List.take 2000 b) 0).1.6,d:=(kdr (List.take 2000 b) 0).1.7,vs:=(kdr (List.take 2000 b) 0).1.8}).c.length 1 none,.bool (cF {k:=(kdr (List.take 2000 b) 0).1.1,a:=(kdr (List.take 2000 b) 0).1.2,b:=(kdr (List.take 2000 b) 0).1.3,c:=(kdr (List.take 2000 b) 0).1.4,on:=(kdr (List.take 2000 b) 0).1.5,kd:=(kdr (List.take 2000 b) 0).1.6,d:=(kdr (List.take 2000 b) 0).1.7,vs:=(kdr (List.take 2000 b) 0).1.8}).on,.int .i64 (cF {k:=(kdr (List.take 2000 b) 0).1.1,a:=(kdr (List.take 2000 b) 0).1.2,b:=(kdr (List.take 2000 b) 0).1.3,c:=(kdr (List.take 2000 b) 0).1.4,on:=(kdr (List.take 2000 b) 0).1.5,kd:=(kdr (List.take 2000 b) 0).1.6,d:=(kdr (List.take 2000 b) 0).1.7,vs:=(kdr (List.take 2000 b) 0).1.8}).kd,.view none (.ints .i64 (cF {k:=(kdr (List.take 2000 b) 0).1.1,a:=(kdr (List.take 2000 b) 0).1.2,b:=(kdr (List.take 2000 b) 0).1.3,c:=(kdr (List.take 2000 b) 0).1.4,on:=(kdr (List.take 2000 b) 0).1.5,kd:=(kdr (List.take 2000 b) 0).1.6,d:=(kdr (List.take 2000 b) 0).1.7,vs:=(kdr (List.take 2000 b) 0).1.8}).d) (cF {k:=(kdr (List.take 2000 b) 0).1.1,a:=(kdr (List.take 2000 b) 0).1.2,b:=(kdr (List.take 2000 b) 0).1.3,c:=(kdr (List.take 2000 b) 0).1.4,on:=(kdr (List.take 2000 b) 0).1.5,kd:=(kdr (List.take 2000 b) 0).1.6,d:=(kdr (List.take 2000 b) 0).1.7,vs:=(kdr (List.take 2000 b) 0).1.8}).d.length 1 none,.int .i64 (cF {k:=(kdr (List.take 2000 b) 0).1.1,a:=(kdr (List.take 2000 b) 0).1.2,b:=(kdr (List.take 2000 b) 0).1.3,c:=(kdr (List.take 2000 b) 0).1.4,on:=(kdr (List.take 2000 b) 0).1.5,kd:=(kdr (List.take 2000 b) 0).1.6,d:=(kdr (List.take 2000 b) 0).1.7,vs:=(kdr (List.take 2000 b) 0).1.8}).vs],.c (.int .i64 (kdV (List.take 2000 b) ((kdr (List.take 2000 b) 0).snd+1))),.c (.view none (.ints .i64 (vcL (List.take 2000 b) ((kdr (List.take 2000 b) 0).snd+1+2)).fst) (vcL (List.take 2000 b) ((kdr (List.take 2000 b) 0).snd+1+2)).fst.length 1 none)],[],(decide ((List.take 2000 b).length=(List.take 2000 b).length)&&(aZ (List.take 2000 b)&&(rp2 ((kdr (List.take 2000 b) 0).1.5) (decide ((List.take 2000 b).length=(List.take 2000 b).length)&&(aZ (List.take 2000 b)&&(decide (0≤(kdr (List.take 2000 b) 0).snd)&&(decide ((kdr (List.take 2000 b) 0).snd≤1000000)&&(((kdr (List.take 2000 b) 0).1.5)&&((bif (kdr (List.take 2000 b) 0).1.5 then decide (pk (List.take 2000 b) (kdr (List.take 2000 b) 0).snd 3>0)else false)&&(decide ((kdr (List.take 2000 b) 0).1.2.length≤274877906944)&&(decide ((kdr (List.take 2000 b) 0).1.7.length≤274877906944)&&((!(↑(cF {k:=(kdr (List.take 2000 b) 0).1.1,a:=(kdr (List.take 2000 b) 0).1.2,b:=(kdr (List.take 2000 b) 0).1.3,c:=(kdr (List.take 2000 b) 0).1.4,on:=(kdr (List.take 2000 b) 0).1.5,kd:=(kdr (List.take 2000 b) 0).1.6,d:=(kdr (List.take 2000 b) 0).1.7,vs:=(kdr (List.take 2000 b) 0).1.8}).b.length:Int)==0)&&(decide ((List.take 2000 b).length=(List.take 2000 b).length)&&(aZ (List.take 2000 b)&&(decide (0≤(kdr (List.take 2000 b) 0).snd+1)&&(decide ((kdr (List.take 2000 b) 0).snd+1≤900000)&&(decide ((List.take 2000 b).length=(List.take 2000 b).length)&&(aZ (List.take 2000 b)&&(decide (0≤(kdr (List.take 2000 b) 0).snd+1+2)&&((decide ((kdr (List.take 2000 b) 0).snd+1+2≤900000))&&true)))))))))))))))))))),[]⟩:=by kernel_rfl
theorem V4 (b:List Int):aD tt (a9 T73) ([]) 100 Tryz.f16 [.c (.view none (.ints .u8 b) b.length 1 none)] [] [(0,true),(0,false),(0,false)]=
  some ⟨.tup [.agg [.int .i64 (kdr (List.take 2000 b) 0).1.1,.view none (.ints .i64 (kdr (List.take 2000 b) 0).1.2) (kdr (List.take 2000 b) 0).1.2.length 1 none,.view none (.ints .i64 (kdr (List.take 2000 b) 0).1.3) (kdr (List.take 2000 b) 0).1.3.length 1 none,.view none (.bools (kdr (List.take 2000 b) 0).1.4) (kdr (List.take 2000 b) 0).1.4.length 1 none,.bool (kdr (List.take 2000 b) 0).1.5,.int .i64 (kdr (List.take 2000 b) 0).1.6,.view none (.ints .i64 (kdr (List.take 2000 b) 0).1.7) (kdr (List.take 2000 b) 0).1.7.length 1 none,.int .i64 (kdr (List.take 2000 b) 0).1.8],.c (.int .i64 (kdV (List.take 2000 b) ((kdr (List.take 2000 b) 0).snd+1))),.c (.view none (.ints .i64 (vcL (List.take 2000 b) ((kdr (List.take 2000 b) 0).snd+1+2)).fst) (vcL (List.take 2000 b) ((kdr (List.take 2000 b) 0).snd+1+2)).fst.length 1 none)],[],(decide ((List.take 2000 b).length=(List.take 2000 b).length)&&(aZ (List.take 2000 b)&&(rp2 ((kdr (List.take 2000 b) 0).1.5) (decide ((List.take 2000 b).length=(List.take 2000 b).length)&&(aZ (List.take 2000 b)&&(decide (0≤(kdr (List.take 2000 b) 0).snd)&&(decide ((kdr (List.take 2000 b) 0).snd≤1000000)&&(((kdr (List.take 2000 b) 0).1.5)&&((!bif (kdr (List.take 2000 b) 0).1.5 then decide (pk (List.take 2000 b) (kdr (List.take 2000 b) 0).snd 3>0)else false)&&((!(↑(kdr (List.take 2000 b) 0).1.3.length:Int)==0)&&(decide ((List.take 2000 b).length=(List.take 2000 b).length)&&(aZ (List.take 2000 b)&&(decide (0≤(kdr (List.take 2000 b) 0).snd+1)&&(decide ((kdr (List.take 2000 b) 0).snd+1≤900000)&&(decide ((List.take 2000 b).length=(List.take 2000 b).length)&&(aZ (List.take 2000 b)&&(decide (0≤(kdr (List.take 2000 b) 0).snd+1+2)&&((decide ((kdr (List.take 2000 b) 0).snd+1+2≤900000))&&true)))))))))))))))))),[]⟩:=by kernel_rfl
theorem V5 (b:List Int):aD tt (a9 T73) ([]) 100 Tryz.f16 [.c (.view none (.ints .u8 b) b.length 1 none)] [] [(0,false),(1,false)]=
  some ⟨.tup [.agg [.int .i64 (kdr (List.take 2000 b) 0).1.1,.view none (.ints .i64 (kdr (List.take 2000 b) 0).1.2) (kdr (List.take 2000 b) 0).1.2.length 1 none,.view none (.ints .i64 (kdr (List.take 2000 b) 0).1.3) (kdr (List.take 2000 b) 0).1.3.length 1 none,.view none (.bools (kdr (List.take 2000 b) 0).1.4) (kdr (List.take 2000 b) 0).1.4.length 1 none,.bool (kdr (List.take 2000 b) 0).1.5,.int .i64 (kdr (List.take 2000 b) 0).1.6,.view none (.ints .i64 (kdr (List.take 2000 b) 0).1.7) (kdr (List.take 2000 b) 0).1.7.length 1 none,.int .i64 (kdr (List.take 2000 b) 0).1.8],.c (.int .i64 (kdV (List.take 2000 b) (kdr (List.take 2000 b) 0).snd)),.c (.view none (.ints .i64 (vcL (List.take 2000 b) ((kdr (List.take 2000 b) 0).snd+2)).fst) (vcL (List.take 2000 b) ((kdr (List.take 2000 b) 0).snd+2)).fst.length 1 none)],[],(decide ((List.take 2000 b).length=(List.take 2000 b).length)&&(aZ (List.take 2000 b)&&(rp4 (!(kdr (List.take 2000 b) 0).1.5) ((!(↑(kdr (List.take 2000 b) 0).1.3.length:Int)==0)&&(decide ((List.take 2000 b).length=(List.take 2000 b).length)&&(aZ (List.take 2000 b)&&(decide (0≤(kdr (List.take 2000 b) 0).snd)&&(decide ((kdr (List.take 2000 b) 0).snd≤900000)&&(decide ((List.take 2000 b).length=(List.take 2000 b).length)&&(aZ (List.take 2000 b)&&(decide (0≤(kdr (List.take 2000 b) 0).snd+2)&&((decide ((kdr (List.take 2000 b) 0).snd+2≤900000))&&true)))))))))))),[]⟩:=by kernel_rfl
end
section
def dkQ (b:List Int):PK×Int:=bif (dkR b).on then(bif decide (pk (b.take 2000) (kdr (b.take 2000) 0).2 3>0)then(bif ((cF (dkR b)).b.length:Int)==0 then kdr (b.take 2000) ((kdr (b.take 2000) 0).2+1)else(cF (dkR b),(kdr (b.take 2000) 0).2+1))else(dkR b,(kdr (b.take 2000) 0).2+1))else(dkR b,(kdr (b.take 2000) 0).2)
def dkK (b:List Int):Int:=kdV (b.take 2000) (dkQ b).2
def dkD (b:List Int):List Int:=(vcL (b.take 2000) ((dkQ b).2+2)).1
def FS:aN:=fun args h=>
 match args,h with
 |[.c (.view _ (.ints .u8 b) n 1 _)],[]=>
  some (.tup [.agg (dkQ b).1.vcells,.c (.int .i64 (dkK b)),.c (.view none (.ints .i64 (dkD b)) (dkD b).length 1 none)],[],[aZ b])
 |_,_=>none
theorem m34:aT Tryz.prog 16 FS:=by
 intro args h res h' o hnorm he ho
 unfold FS at he
 split at he
 case h_2=>cases he
 rename_i nl b n cap
 simp only[Option.some.injEq,Prod.mk.injEq]at he
 obtain⟨rfl,rfl,rfl⟩:=he
 simp only[List.mem_cons,List.not_mem_nil,or_false,forall_eq_or_imp,forall_eq,decide_eq_true_eq]at ho
 have o1:=ho
 simp only[bE,AV.norm,bF,aF.norm,Con.size,List.cons.injEq,AV.c.injEq,AV.agg.injEq,aF.view.injEq,aL,true_and,and_true]at hnorm
 obtain⟨rfl,rfl,rfl⟩:=hnorm
 obtain⟨⟨z1,z2,z3,z4⟩,s2,s3⟩:=HV (b.take 2000) (p:=0) (by omega)
 obtain⟨-,y2,y3⟩:=HV (b.take 2000) (p:=(kdr (b.take 2000) 0).2+1) (by omega)
 have n8:(((8:Nat):Int)==0)=false:=rfl
 unfold dkK dkD
 have q: ∀x,dkQ b=x→dkQ b=x:=fun _ h=>h
 cases ho:(dkR b).on with
 |false=>
  have ho':(kdr (b.take 2000) 0).1.on=false:=ho
  have e1:dkQ b=(dkR b,(kdr (b.take 2000) 0).2):=by unfold dkQ;rw[ho];rfl
  rw[e1]
  exact mo t73 (V5 b) (by simp only[iZ o1,ho',z2,n8,bS,rpS];omega)
 |true=>
  have ho':(kdr (b.take 2000) 0).1.on=true:=ho
  cases hp:decide (pk (b.take 2000) (kdr (b.take 2000) 0).2 3>0)with
  |false=>
   have e1:dkQ b=(dkR b,(kdr (b.take 2000) 0).2+1):=by unfold dkQ;rw[ho,hp];rfl
   rw[e1]
   exact mo t73 (V4 b) (by simp only[iZ o1,ho',hp,z2,n8,bS,rpS];omega)
  |true=>
   cases hr:((cF (dkR b)).b.length:Int)==0 with
   |true=>
    have hr2:(((cF (kdr (b.take 2000) 0).1).b.length:Int)==0)=true:=hr
    have e1:dkQ b=kdr (b.take 2000) ((kdr (b.take 2000) 0).2+1):=by unfold dkQ;rw[ho,hp,hr];rfl
    rw[e1]
    exact mo t73 (V2 b) (by simp only[iZ o1,ho',hp,hr2,z1,bS,rpS];omega)
   |false=>
    have hr2:(((cF (kdr (b.take 2000) 0).1).b.length:Int)==0)=false:=hr
    have e1:dkQ b=(cF (dkR b),(kdr (b.take 2000) 0).2+1):=by unfold dkQ;rw[ho,hp,hr];rfl
    rw[e1]
    exact mo t73 (V3 b) (by simp only[iZ o1,ho',hp,hr2,z1,bS,rpS];omega)
noncomputable def T74:List bD:=[⟨16,[],nm FS⟩]++T73
theorem e74:a6 Tryz.prog T74:=by
 refine a6.append ?_ e73
 intro e he
 simp only[List.mem_cons,List.not_mem_nil,or_false]at he
 subst he;exact m34.ok
theorem t74:bJ Tryz.prog (a9 T74):=aM e74
end
section
noncomputable abbrev f21:=Tryz.f23
noncomputable def I21 (a b:List Int) (i:Int):St:=aY f21.ntmps [(0,.c (.view none (.ints .i64 a) a.length 1 none)),(1,.c (.view none (.ints .i64 b) b.length 1 none)),(5,.c (.int .i64 i))] []
noncomputable def X21:St:=aY f21.ntmps [] []
noncomputable def Y21:St:=aY f21.ntmps [(4,.c (.bool false))] []
theorem XU (a b:List Int) (i:Int):aC 0 (a8 f21 0) (aA f21 0) (aG tt (a9 T74) ([]) 0 100 (a0 0 (a5 f21)) (I21 a b i) [(0,true),(0,true)])=
  some (.ret,(decide (i<(↑a.length:Int))&&(decide (0≤i)&&(decide (i<(↑a.length:Int))&&(decide (i.toNat<a.length)&&(decide (0≤i)&&(decide (i<(↑b.length:Int))&&(decide (i.toNat<b.length)&&((a.getD i.toNat 0 !=b.getD i.toNat 0)&&true)))))))),[],Y21):=by kernel_rfl
theorem XV (a b:List Int) (i:Int):aC 0 (a8 f21 0) (aA f21 0) (aG tt (a9 T74) ([]) 0 100 (a0 0 (a5 f21)) (I21 a b i) [(0,true),(0,false)])=
  some (.normal,(decide (i<(↑a.length:Int))&&(decide (0≤i)&&(decide (i<(↑a.length:Int))&&(decide (i.toNat<a.length)&&(decide (0≤i)&&(decide (i<(↑b.length:Int))&&(decide (i.toNat<b.length)&&((!a.getD i.toNat 0 !=b.getD i.toNat 0)&&true)))))))),[],I21 a b (IntKind.i64.wrap (i+1))):=by kernel_rfl
theorem XW (a b:List Int) (i:Int):aC 0 (a8 f21 0) (aA f21 0) (aG tt (a9 T74) ([]) 0 100 (a0 0 (a5 f21)) (I21 a b i) [(0,false)])=
  some (.exit 0,((!decide (i<(↑a.length:Int)))&&true),[],X21):=by kernel_rfl
theorem a0T (a b:List Int) (lcv:List (Nat×LC)):aD tt (a9 T74) (lcv) 100 f21 [.c (.view none (.ints .i64 a) a.length 1 none),.c (.view none (.ints .i64 b) b.length 1 none)] [] [(0,true)]=
  some ⟨.c (.bool false),[],(((↑a.length:Int)!=(↑b.length:Int))&&true),[]⟩:=by kernel_rfl
theorem a0U (a b:List Int):aD tt (a9 T74) ([(0,⟨a8 f21 0,I21 a b 0,.normal,X21⟩)]) 100 f21 [.c (.view none (.ints .i64 a) a.length 1 none),.c (.view none (.ints .i64 b) b.length 1 none)] [] [(0,false)]=
  some ⟨.c (.bool true),[],((!(↑a.length:Int)!=(↑b.length:Int))&&true),[I21 a b 0=I21 a b 0]⟩:=by kernel_rfl
theorem US (a b:List Int):aD tt (a9 T74) ([(0,⟨a8 f21 0,I21 a b 0,.ret,Y21⟩)]) 100 f21 [.c (.view none (.ints .i64 a) a.length 1 none),.c (.view none (.ints .i64 b) b.length 1 none)] [] [(0,false)]=
  some ⟨.c (.bool false),[],((!(↑a.length:Int)!=(↑b.length:Int))&&true),[I21 a b 0=I21 a b 0]⟩:=by kernel_rfl
noncomputable abbrev f92:=Tryz.f79
noncomputable def I92 (a b:List Bool) (i:Int):St:=aY f92.ntmps [(0,.c (.view none (.bools a) a.length 1 none)),(1,.c (.view none (.bools b) b.length 1 none)),(5,.c (.int .i64 i))] []
noncomputable def X92:St:=aY f92.ntmps [] []
noncomputable def Y92:St:=aY f92.ntmps [(4,.c (.bool false))] []
theorem ZH (a b:List Bool) (i:Int):aC 0 (a8 f92 0) (aA f92 0) (aG tt (a9 T74) ([]) 0 100 (a0 0 (a5 f92)) (I92 a b i) [(0,true),(0,true)])=
  some (.ret,(decide (i<(↑a.length:Int))&&(decide (0≤i)&&(decide (i<(↑a.length:Int))&&(decide (i.toNat<a.length)&&(decide (0≤i)&&(decide (i<(↑b.length:Int))&&(decide (i.toNat<b.length)&&((!a.getD i.toNat false==b.getD i.toNat false)&&true)))))))),[],Y92):=by kernel_rfl
theorem ZI (a b:List Bool) (i:Int):aC 0 (a8 f92 0) (aA f92 0) (aG tt (a9 T74) ([]) 0 100 (a0 0 (a5 f92)) (I92 a b i) [(0,true),(0,false)])=
  some (.normal,(decide (i<(↑a.length:Int))&&(decide (0≤i)&&(decide (i<(↑a.length:Int))&&(decide (i.toNat<a.length)&&(decide (0≤i)&&(decide (i<(↑b.length:Int))&&(decide (i.toNat<b.length)&&((!!a.getD i.toNat false==b.getD i.toNat false)&&true)))))))),[],I92 a b (IntKind.i64.wrap (i+1))):=by kernel_rfl
theorem ZJ (a b:List Bool) (i:Int):aC 0 (a8 f92 0) (aA f92 0) (aG tt (a9 T74) ([]) 0 100 (a0 0 (a5 f92)) (I92 a b i) [(0,false)])=
  some (.exit 0,((!decide (i<(↑a.length:Int)))&&true),[],X92):=by kernel_rfl
theorem a2S (a b:List Bool) (lcv:List (Nat×LC)):aD tt (a9 T74) (lcv) 100 f92 [.c (.view none (.bools a) a.length 1 none),.c (.view none (.bools b) b.length 1 none)] [] [(0,true)]=
  some ⟨.c (.bool false),[],(((↑a.length:Int)!=(↑b.length:Int))&&true),[]⟩:=by kernel_rfl
theorem a2T (a b:List Bool):aD tt (a9 T74) ([(0,⟨a8 f92 0,I92 a b 0,.normal,X92⟩)]) 100 f92 [.c (.view none (.bools a) a.length 1 none),.c (.view none (.bools b) b.length 1 none)] [] [(0,false)]=
  some ⟨.c (.bool true),[],((!(↑a.length:Int)!=(↑b.length:Int))&&true),[I92 a b 0=I92 a b 0]⟩:=by kernel_rfl
theorem VI (a b:List Bool):aD tt (a9 T74) ([(0,⟨a8 f92 0,I92 a b 0,.ret,Y92⟩)]) 100 f92 [.c (.view none (.bools a) a.length 1 none),.c (.view none (.bools b) b.length 1 none)] [] [(0,false)]=
  some ⟨.c (.bool false),[],((!(↑a.length:Int)!=(↑b.length:Int))&&true),[I92 a b 0=I92 a b 0]⟩:=by kernel_rfl
def xO (a b:List Int) (i:Nat):Bool:= !(a.getD i 0 !=b.getD i 0)
def lkI (a b:List Int):Bool:=((a.length:Int)==(b.length:Int))&&c9 (xO a b) a.length 0
theorem l21 (a b:List Int) (hl:a.length=b.length) (hn:a.length≤274877906944):
  aS Tryz.prog 0 (.block 0 (.loop (a0 0 (a5 f21)))) (I21 a b 0) fun e t=>e=(bif c9 (xO a b) a.length 0 then .normal else .ret)∧t=bif c9 (xO a b) a.length 0 then X21 else Y21:=by
 refine aS.all hT t74 bK a.length (xO a b) (fun i=>I21 a b i) X21 Y21 .ret (.inr rfl) (a8 f21 0) (aA f21 0) (fun _=>[]) (fun _ _=>aI.nil) (fun i hi h=> ?_) (fun i hi h=> ?_)
  ⟨_,_,⟨_,_,XW a b a.length,by simp,by simp⟩⟩
 ·unfold xO at h
  rw[Bool.not_eq_true']at h
  have e:=XV a b i
  rw[aB (by omega) (by omega),Int.toNat_natCast]at e
  refine⟨_,_,⟨_,_,e, ?_,by simp⟩⟩
  simp only[h,bS,rpS]
  omega
 ·unfold xO at h
  rw[Bool.not_eq_false']at h
  rw[if_neg (by intro h;cases h)]
  have e:=XU a b i
  rw[Int.toNat_natCast]at e
  refine⟨_,_,⟨_,_,e, ?_,by simp⟩⟩
  simp only[h,bS,rpS]
  omega
def OL:aN:=fun args h=>
 match args,h with
 |[.c (.view _ (.ints .i64 a) n1 1 _),.c (.view _ (.ints .i64 b) n2 1 _)],[]=>
  some (.c (.bool (lkI a b)),[],[decide (a.length≤274877906944)])
 |_,_=>none
theorem m21:aT Tryz.prog 23 OL:=by
 intro args h res h' o hnorm he ho
 unfold OL at he
 split at he
 case h_2=>cases he
 rename_i nl a n1 cap nl2 b n2 cap2
 simp only[Option.some.injEq,Prod.mk.injEq]at he
 obtain⟨rfl,rfl,rfl⟩:=he
 simp only[List.mem_cons,List.not_mem_nil,or_false,forall_eq_or_imp,forall_eq,decide_eq_true_eq]at ho
 have o1:=ho
 simp only[bE,AV.norm,bF,aF.norm,Con.size,List.cons.injEq,AV.c.injEq,AV.agg.injEq,aF.view.injEq,aL,true_and,and_true]at hnorm
 obtain⟨⟨rfl,rfl,rfl⟩,rfl,rfl,rfl⟩:=hnorm
 unfold lkI
 cases hl:((a.length:Int)==(b.length:Int))with
 |false=>exact mo (fn:=f21) t74 (a0T a b []) (by simp only[bne,hl,bS,rpS])
 |true=>
  have hl':a.length=b.length:=by have:=beq_iff_eq.1 hl;omega
  have g:=l21 a b hl' o1
  have hq: ∀x,c9 (xO a b) a.length 0=x→c9 (xO a b) a.length 0=x:=fun _ h=>h
  cases hx:c9 (xO a b) a.length 0 with
  |true=>
   rw[hx]at g
   exact mo (fn:=f21) t74 (a0U a b) (by simp only[bne,hl,bS,rpS]) (hlc:=(fun cc hcc=>aI.cons (c:=cc) (by cases hcc;kernel_rfl) (by cases hcc;exact g) aI.nil))
  |false=>
   rw[hx]at g
   exact mo (fn:=f21) t74 (US a b) (by simp only[bne,hl,bS,rpS]) (hlc:=(fun cc hcc=>aI.cons (c:=cc) (by cases hcc;kernel_rfl) (by cases hcc;exact g) aI.nil))
def xN (a b:List Bool) (i:Nat):Bool:=a.getD i false==b.getD i false
def lkB (a b:List Bool):Bool:=((a.length:Int)==(b.length:Int))&&c9 (xN a b) a.length 0
theorem l92 (a b:List Bool) (hl:a.length=b.length) (hn:a.length≤274877906944):
  aS Tryz.prog 0 (.block 0 (.loop (a0 0 (a5 f92)))) (I92 a b 0) fun e t=>e=(bif c9 (xN a b) a.length 0 then .normal else .ret)∧t=bif c9 (xN a b) a.length 0 then X92 else Y92:=by
 refine aS.all hT t74 bK a.length (xN a b) (fun i=>I92 a b i) X92 Y92 .ret (.inr rfl) (a8 f92 0) (aA f92 0) (fun _=>[]) (fun _ _=>aI.nil) (fun i hi h=> ?_) (fun i hi h=> ?_)
  ⟨_,_,⟨_,_,ZJ a b a.length,by simp,by simp⟩⟩
 ·unfold xN at h
  have e:=ZI a b i
  rw[aB (by omega) (by omega),Int.toNat_natCast]at e
  refine⟨_,_,⟨_,_,e, ?_,by simp⟩⟩
  simp only[h,bS,rpS]
  omega
 ·unfold xN at h
  rw[if_neg (by intro h;cases h)]
  have e:=ZH a b i
  rw[Int.toNat_natCast]at e
  refine⟨_,_,⟨_,_,e, ?_,by simp⟩⟩
  simp only[h,bS,rpS]
  omega
def OK:aN:=fun args h=>
 match args,h with
 |[.c (.view _ (.bools a) n1 1 _),.c (.view _ (.bools b) n2 1 _)],[]=>
  some (.c (.bool (lkB a b)),[],[decide (a.length≤274877906944)])
 |_,_=>none
theorem m92:aT Tryz.prog 79 OK:=by
 intro args h res h' o hnorm he ho
 unfold OK at he
 split at he
 case h_2=>cases he
 rename_i nl a n1 cap nl2 b n2 cap2
 simp only[Option.some.injEq,Prod.mk.injEq]at he
 obtain⟨rfl,rfl,rfl⟩:=he
 simp only[List.mem_cons,List.not_mem_nil,or_false,forall_eq_or_imp,forall_eq,decide_eq_true_eq]at ho
 have o1:=ho
 simp only[bE,AV.norm,bF,aF.norm,Con.size,List.cons.injEq,AV.c.injEq,AV.agg.injEq,aF.view.injEq,aL,true_and,and_true]at hnorm
 obtain⟨⟨rfl,rfl,rfl⟩,rfl,rfl,rfl⟩:=hnorm
 unfold lkB
 cases hl:((a.length:Int)==(b.length:Int))with
 |false=>exact mo (fn:=f92) t74 (a2S a b []) (by simp only[bne,hl,bS,rpS])
 |true=>
  have hl':a.length=b.length:=by have:=beq_iff_eq.1 hl;omega
  have g:=l92 a b hl' o1
  have hq: ∀x,c9 (xN a b) a.length 0=x→c9 (xN a b) a.length 0=x:=fun _ h=>h
  cases hx:c9 (xN a b) a.length 0 with
  |true=>
   rw[hx]at g
   exact mo (fn:=f92) t74 (a2T a b) (by simp only[bne,hl,bS,rpS]) (hlc:=(fun cc hcc=>aI.cons (c:=cc) (by cases hcc;kernel_rfl) (by cases hcc;exact g) aI.nil))
  |false=>
   rw[hx]at g
   exact mo (fn:=f92) t74 (VI a b) (by simp only[bne,hl,bS,rpS]) (hlc:=(fun cc hcc=>aI.cons (c:=cc) (by cases hcc;kernel_rfl) (by cases hcc;exact g) aI.nil))
def B3:aN:=fun args h=>
 match args,h with
 |[.c (.view _ (.ints .i64 a) n1 1 _),.c (.view _ (.ints .i64 b) n2 1 _)],[]=>
  some (.c (.bool true),[],[decide (a.length≤274877906944),lkI a b])
 |_,_=>none
theorem a6U:aT Tryz.prog 23 B3:=by
 intro args h res h' o hnorm he ho
 unfold B3 at he
 split at he
 case h_2=>cases he
 rename_i nl a n1 cap nl2 b n2 cap2
 simp only[Option.some.injEq,Prod.mk.injEq]at he
 obtain⟨rfl,rfl,rfl⟩:=he
 simp only[List.mem_cons,List.not_mem_nil,or_false,forall_eq_or_imp,forall_eq,decide_eq_true_eq]at ho
 obtain⟨o1,o2⟩:=ho
 rw[←o2]
 exact m21 _ _ _ _ _ hnorm rfl (by simp[o1])
def B2:aN:=fun args h=>
 match args,h with
 |[.c (.view _ (.bools a) n1 1 _),.c (.view _ (.bools b) n2 1 _)],[]=>
  some (.c (.bool true),[],[decide (a.length≤274877906944),lkB a b])
 |_,_=>none
theorem a6W:aT Tryz.prog 79 B2:=by
 intro args h res h' o hnorm he ho
 unfold B2 at he
 split at he
 case h_2=>cases he
 rename_i nl a n1 cap nl2 b n2 cap2
 simp only[Option.some.injEq,Prod.mk.injEq]at he
 obtain⟨rfl,rfl,rfl⟩:=he
 simp only[List.mem_cons,List.not_mem_nil,or_false,forall_eq_or_imp,forall_eq,decide_eq_true_eq]at ho
 obtain⟨o1,o2⟩:=ho
 rw[←o2]
 exact m92 _ _ _ _ _ hnorm rfl (by simp[o1])
noncomputable def T75:List bD:=[⟨23,[],nm B3⟩,⟨79,[],nm B2⟩]++T74
theorem e75:a6 Tryz.prog T75:=by
 refine a6.append ?_ e74
 intro e he
 simp only[List.mem_cons,List.not_mem_nil,or_false]at he
 rcases he with rfl|rfl
 ·exact a6U.ok
 ·exact a6W.ok
theorem t75:bJ Tryz.prog (a9 T75):=aM e75
theorem a1B (k k':Int) (a a' b b':List Int) (c c':List Bool):aD tt (a9 T75) ([]) 100 Tryz.f24 [.agg [.int .i64 k,.view none (.ints .i64 a) a.length 1 none,.view none (.ints .i64 b) b.length 1 none,.view none (.bools c) c.length 1 none],.agg [.int .i64 k',.view none (.ints .i64 a') a'.length 1 none,.view none (.ints .i64 b') b'.length 1 none,.view none (.bools c') c'.length 1 none]] [] [(0,true),(0,true),(0,true)]=
  some ⟨.c (.bool (bif bif bif k==k' then true else false then true else false then true else false)),[],(rp5 (k==k') (decide (a.length≤274877906944)&&(lkI a a'&&(rp5 (bif k==k' then true else false) (decide (b.length≤274877906944)&&(lkI b b'&&(rp5 (bif bif k==k' then true else false then true else false) (decide (c.length≤274877906944)&&((lkB c c')&&true))))))))),[]⟩:=by kernel_rfl
def G2:aN:=fun args h=>
 match args,h with
 |[.agg [.int .i64 k,.view _ (.ints .i64 a) n1 1 _,.view _ (.ints .i64 b) n2 1 _,.view _ (.bools c) n3 1 _],.agg [.int .i64 k',.view _ (.ints .i64 a') n1' 1 _,.view _ (.ints .i64 b') n2' 1 _,.view _ (.bools c') n3' 1 _]],[]=>
  some (.c (.bool true),[],[k==k',decide (a.length≤274877906944),lkI a a',decide (b.length≤274877906944),lkI b b',decide (c.length≤274877906944),lkB c c'])
 |_,_=>none
theorem m37:aT Tryz.prog 24 G2:=by
 intro args h res h' o hnorm he ho
 unfold G2 at he
 split at he
 case h_2=>cases he
 rename_i k nl1 a n1 cap1 nl2 b n2 cap2 nl3 c n3 cap3 k' nl1' a' n1' cap1' nl2' b' n2' cap2' nl3' c' n3' cap3'
 simp only[Option.some.injEq,Prod.mk.injEq]at he
 obtain⟨rfl,rfl,rfl⟩:=he
 simp only[List.mem_cons,List.not_mem_nil,or_false,forall_eq_or_imp,forall_eq,decide_eq_true_eq]at ho
 obtain⟨o1,o2,o3,o4,o5,o6,o7⟩:=ho
 simp only[bE,AV.norm,bF,aF.norm,Con.size,List.cons.injEq,AV.c.injEq,AV.agg.injEq,aF.view.injEq,aL,true_and,and_true]at hnorm
 obtain⟨⟨⟨rfl,rfl,rfl⟩,⟨rfl,rfl,rfl⟩,rfl,rfl,rfl⟩,⟨rfl,rfl,rfl⟩,⟨rfl,rfl,rfl⟩,rfl,rfl,rfl⟩:=hnorm
 have e:=a1B k k' a a' b b' c c'
 rw[o1]at e
 exact mo t75 e (by simp only[o1,o2,o3,o4,o5,o6,o7,bS,rpS])
noncomputable def T76:List bD:=[⟨24,[],nm G2⟩]++T75
theorem e76:a6 Tryz.prog T76:=by
 refine a6.append ?_ e75
 intro e he
 simp only[List.mem_cons,List.not_mem_nil,or_false]at he
 subst he;exact m37.ok
theorem t76:bJ Tryz.prog (a9 T76):=aM e76
theorem a0I (k:Int) (a b:List Int) (c:List Bool) (on:Bool) (kd:Int) (d:List Int) (vs:Int) (k':Int) (a' b':List Int) (c':List Bool) (on':Bool) (kd':Int) (d':List Int) (vs':Int):aD tt (a9 T76) ([]) 100 Tryz.f12 [.agg [.int .i64 k,.view none (.ints .i64 a) a.length 1 none,.view none (.ints .i64 b) b.length 1 none,.view none (.bools c) c.length 1 none,.bool on,.int .i64 kd,.view none (.ints .i64 d) d.length 1 none,.int .i64 vs],.agg [.int .i64 k',.view none (.ints .i64 a') a'.length 1 none,.view none (.ints .i64 b') b'.length 1 none,.view none (.bools c') c'.length 1 none,.bool on',.int .i64 kd',.view none (.ints .i64 d') d'.length 1 none,.int .i64 vs']] [] [(1,true),(0,true),(0,true)]=
  some ⟨.c (.bool (bif bif bif on==on' then kd==kd' else false then true else false then vs==vs' else false)),[],((k==k')&&(decide (a.length≤274877906944)&&(lkI a a'&&(decide (b.length≤274877906944)&&(lkI b b'&&(decide (c.length≤274877906944)&&(lkB c c'&&(rp5 (on==on') (rp5 (bif on==on' then kd==kd' else false) (decide (d.length≤274877906944)&&(lkI d d'&&(rp5 (bif bif on==on' then kd==kd' else false then true else false) true)))))))))))),[]⟩:=by kernel_rfl
end
section
def kpE (x y:PK):Bool:=(x.k==y.k)&&(lkI x.a y.a&&(lkI x.b y.b&&(lkB x.c y.c&&((x.on==y.on)&&((x.kd==y.kd)&&(lkI x.d y.d&&(x.vs==y.vs)))))))
def G1:aN:=fun args h=>
 match args,h with
 |[.agg [.int .i64 k,.view _ (.ints .i64 a) n1 1 _,.view _ (.ints .i64 b) n2 1 _,.view _ (.bools c) n3 1 _,.bool on,.int .i64 kd,.view _ (.ints .i64 d) n4 1 _,.int .i64 vs],.agg [.int .i64 k',.view _ (.ints .i64 a') n1' 1 _,.view _ (.ints .i64 b') n2' 1 _,.view _ (.bools c') n3' 1 _,.bool on',.int .i64 kd',.view _ (.ints .i64 d') n4' 1 _,.int .i64 vs']],[]=>
  some (.c (.bool true),[],[decide (a.length≤274877906944),decide (b.length≤274877906944),decide (c.length≤274877906944),decide (d.length≤274877906944),kpE ⟨k,a,b,c,on,kd,d,vs⟩ ⟨k',a',b',c',on',kd',d',vs'⟩])
 |_,_=>none
theorem m17:aT Tryz.prog 12 G1:=by
 intro args h res h' o hnorm he ho
 unfold G1 at he
 split at he
 case h_2=>cases he
 rename_i k nl1 a n1 cap1 nl2 b n2 cap2 nl3 c n3 cap3 on kd nl4 d n4 cap4 vs k' nl1' a' n1' cap1' nl2' b' n2' cap2' nl3' c' n3' cap3' on' kd' nl4' d' n4' cap4' vs'
 simp only[Option.some.injEq,Prod.mk.injEq]at he
 obtain⟨rfl,rfl,rfl⟩:=he
 simp only[List.mem_cons,List.not_mem_nil,or_false,forall_eq_or_imp,forall_eq,decide_eq_true_eq]at ho
 obtain⟨o1,o2,o3,o4,o5⟩:=ho
 simp only[bE,AV.norm,bF,aF.norm,Con.size,List.cons.injEq,AV.c.injEq,AV.agg.injEq,aF.view.injEq,aL,true_and,and_true]at hnorm
 obtain⟨⟨⟨rfl,rfl,rfl⟩,⟨rfl,rfl,rfl⟩,⟨rfl,rfl,rfl⟩,rfl,rfl,rfl⟩,⟨rfl,rfl,rfl⟩,⟨rfl,rfl,rfl⟩,⟨rfl,rfl,rfl⟩,rfl,rfl,rfl⟩:=hnorm
 simp only[kpE,Bool.and_eq_true,rpS]at o5
 obtain⟨e1,e2,e3,e4,e5,e6,e7,e8⟩:=o5
 have e:=a0I k a b c on kd d vs k' a' b' c' on' kd' d' vs'
 rw[e5,e6,e8]at e
 exact mo t76 e (by simp only[e1,e2,e3,e4,e5,e6,e7,e8,o1,o2,o3,o4,bS,rpS])
noncomputable def T77:List bD:=[⟨12,[],nm G1⟩]++T76
theorem e77:a6 Tryz.prog T77:=by
 refine a6.append ?_ e76
 intro e he
 simp only[List.mem_cons,List.not_mem_nil,or_false]at he
 subst he;exact m17.ok
theorem t77:bJ Tryz.prog (a9 T77):=aM e77
end
section
open Go.RowKit
theorem a72 (W:World):Mem (fun _=>False) W (bH noIds) [] noIds W:=
 ⟨fun id=>by
  have:Heap.get ([]:List aW) id=.unborn:=by simp[Heap.get]
  rw[this];exact trivial,fun i j b h _=>(by cases h),fun id b h=>(by cases h),rfl,rfl,rfl,Nat.le_refl _,fun _ _ _=>rfl,fun b h=>h.elim⟩
theorem own:ownKnob Tryz.prog.godebug=none:=by kernel_rfl
theorem a48:laidOutB Tryz.prog=true:=by kernel_rfl
end
section
def vwM (F:aN):aN:=fun args h=>
 match h with
 |[]=>(match F args []with
  |some (res,out,obl)=>(match vwA (Heap.get out) res with
   |some (res',o)=>some (res',[],obl++o)
   |none=>none)
  |none=>none)
 |_=>none
theorem aT.vw {P:Program} {f:FuncId} {F:aN} (hF:aT P f F):aT P f (vwM F):=by
 intro args h res h' o hn he ho
 unfold vwM at he
 split at he
 ·split at he
  ·rename_i r out obl hf
   split at he
   ·rename_i r' o2 hv
    simp only[Option.some.injEq,Prod.mk.injEq]at he
    obtain⟨rfl,rfl,rfl⟩:=he
    exact(hF _ _ _ _ _ hn hf fun b hb=>ho b (by simp[hb])).views hv fun b hb=>ho b (by simp[hb])
   ·cases he
  ·cases he
 ·cases he
end
section
def pB (h:List aW):Nat→Nat→List Nat→Bool
 |0,_,_=>true
 |m+1,k,x::r=>((x==k)||(match Heap.get h x with|.dead=>true|_=>false))&&pB h m (k+1) r
 |_+1,_,[]=>false
theorem kH {h:List aW}: ∀ {m k:Nat} {l:List Nat},pB h m k l=true→ ∀i,i<m→l[i]? =some (k+i)∨ ∃x,l[i]? =some x∧Heap.get h x=.dead
 |0,_,_,_,i,hi=>by omega
 |m+1,k,x::r,hr,i,hi=>by
  simp only[pB,Bool.and_eq_true,rpS,Bool.or_eq_true,beq_iff_eq]at hr
  cases i with
  |zero=>
   rcases hr.1 with e|e
   ·exact .inl (by simp[e])
   ·refine .inr ⟨x,by simp, ?_⟩
    revert e
    cases Heap.get h x<;>simp
  |succ i=>
   have:=kH hr.2 i (by omega)
   rw[show k+(i+1)=k+1+i from by omega]
   simpa using this
 |_+1,_,[],hr,i,hi=>by simp[pB]at hr
theorem bA.remapD {P:Program} {f:FuncId} {args:List AV} {h h':List aW} {res:AV} (hm:bA P f args h res h') {order:List Nat} (hn:cP order=true) (hr:pB h' h.length 0 order=true):
  bA P f args h (res.ren order) (order.map fun id=>(Heap.get h' id).ren order):=by
 refine⟨hm.1,fun {X w0 ρ0} m vs hl' hv=> ?_⟩
 refine Calls.mono (hm.2 m vs hl' hv) ?_
 rintro e w' ⟨v,ρ',rfl,mb,im,m',hx⟩
 refine⟨v,bV h' order ρ',rfl,mb.trans ⟨fun _ _ _=>rfl,fun _ _=>rfl,Nat.le_refl _,fun b hb=> .inl (dB _ _ _ b hb)⟩, ?_,m'.ren hn,hx.ren (dB _ _ _) (dJ _ _ _)⟩
 have one: ∀k,ρ0 k≠ .unborn→bV h' order ρ' k=ρ' k∨bV h' order ρ' k=.dead:=fun k hk=>by
  have hlt:k<h.length:=by
   rcases Nat.lt_or_ge k h.length with hlt|hge
   ·exact hlt
   ·have hs:=m.slot k
    have hg:Heap.get h k=.unborn:=by
     unfold Heap.get
     rw[List.getD_eq_getElem?_getD,List.getElem?_eq_none hge];rfl
    rw[hg]at hs
    revert hs hk
    cases ρ0 k<;>simp[dT]
  rcases kH hr k hlt with e|⟨x,e,hd⟩
  ·rw[Nat.zero_add]at e;exact eO e
  ·right
   have hs:=m'.slot x
   rw[hd]at hs
   have hx:ρ' x=.dead:=by
    revert hs
    cases ρ' x<;>simp[dT]
   unfold bV
   rw[e]
   dsimp only
   rw[hd]
   exact hx
 refine⟨fun id hd=> ?_,fun id hd=> ?_,fun id b hd=> ?_⟩
 ·rcases one id (by rw[hd];simp)with e|e
  ·rw[e];exact im.dead id hd
  ·exact e
 ·rcases one id (by rw[hd];simp)with e|e
  ·rw[e];exact im.nil id hd
  ·exact .inr e
 ·rcases one id (by rw[hd];simp)with e|e
  ·rw[e];exact im.at_ id b hd
  ·exact .inr e
end
section
theorem cT.slots {m:Nat} {ts:List AV} {h h':List aW} (hs:nV h h'):cT m ⟨ts,h⟩ ⟨ts,h'⟩:=fun X w0 ρ0 ρ a w h0 r=>
 ⟨ρ,r.size,r.tmps,⟨fun id=>kJ hs id _ _ _ _ (r.mem.slot id),r.mem.inj,r.mem.own,r.mem.os,r.mem.tape,r.mem.output,r.mem.size,r.mem.keep,r.mem.foreign⟩,r.defers,r.mono,r.ids⟩
theorem cT.addDead {m:Nat} {s:St}:cT m s ⟨s.tmps,s.heap++[.dead]⟩:=fun X w0 ρ0 ρ a w h0 r=>by
 obtain⟨hun,m2⟩:=r.mem.addNil (c0:=.ints .i64 []) rfl
 have mo:=fR w hun
 have hg:Heap.get (s.heap++[.live (.ints .i64 [])]) s.heap.length=.live (.ints .i64 []):=by
  unfold Heap.get
  rw[List.getD_eq_getElem?_getD,List.getElem?_append_right (Nat.le_refl _)];simp
 obtain⟨mo2,m3⟩:=m2.kill (id:=s.heap.length) (by rw[hg];simp)
 have e:(s.heap++[aW.live (.ints .i64 [])]).set s.heap.length .dead=s.heap++[.dead]:=by
  rw[List.set_append_right _ _ (Nat.le_refl _)];simp
 rw[e]at m3
 exact⟨_,r.size,fun t ht=>((r.tmps t ht).mono mo).mono mo2,m3,r.defers,(r.mono.trans mo.toB).trans mo2.toB,(r.ids.trans mo.ids).trans mo2.ids⟩
theorem cT.remapD {m:Nat} {s:St} {live order:List Nat} (hn:cP order=true) (hr:pB s.heap m 0 order=true):cT m s (Am.remap live order s):=by
 intro X w0 ρ0 ρ a w h0 r
 refine⟨bV s.heap order ρ,⟨by simp[Am.remap,fO,r.size],fun t ht=> ?_,r.mem.ren hn,r.defers, ?_, ?_⟩⟩
 ·simp only[Am.remap,fO]at ht⊢
  rw[mC _ _ _ _ _ ht]
  cases live.elem (0+t)with
  |false=>exact .any _
  |true=>exact(r.tmps t ht).ren (dB _ _ _) (dJ _ _ _)
 ·exact r.mono.trans ⟨fun _ _ _=>rfl,fun _ _=>rfl,Nat.le_refl _,fun b hb=> .inl (dB _ _ _ b hb)⟩
 ·have one: ∀k,ρ0 k≠ .unborn→bV s.heap order ρ k=ρ k∨bV s.heap order ρ k=.dead:=fun k hk=>by
   have hlt:k<m:=by
    rcases Nat.lt_or_ge k m with h|h
    ·exact h
    ·exact absurd (h0 k h) hk
   rcases kH hr k hlt with e|⟨x,e,hd⟩
   ·rw[Nat.zero_add]at e;exact eO e
   ·right
    have hs:=r.mem.slot x
    rw[hd]at hs
    have hx:ρ x=.dead:=by
     revert hs
     cases ρ x<;>simp[dT]
    unfold bV
    rw[e]
    dsimp only
    rw[hd]
    exact hx
  refine⟨fun id h=> ?_,fun id h=> ?_,fun id b h=> ?_⟩
  ·rcases one id (by rw[h];simp)with e|e
   ·rw[e];exact r.ids.dead id h
   ·exact e
  ·rcases one id (by rw[h];simp)with e|e
   ·rw[e];exact r.ids.nil id h
   ·exact .inr e
  ·rcases one id (by rw[h];simp)with e|e
   ·rw[e];exact r.ids.at_ id b h
   ·exact .inr e
section
variable {P : Program} {tt : Tab} (hT : iV P tt) {ct : CT} (hct : bJ P ct) (bK : P.follows .mixedOrders = true)
include hT hct bK
theorem aS.roundsW {m id:Nat} {body:Code} {α:Type} (Inv:α→Prop) (I:α→St) (μ:α→Nat) (live liveX:List Nat) (ex:α→Ex) (post:α→St) (lc:α→List (Nat×LC))
  (hlc: ∀x,Inv x→aI P m (lc x) body)
  (h: ∀x,Inv x→ ∃n p e b q s,aC m live liveX (aG tt ct (lc x) m n body (I x) p)=some (e,b,q,s)∧b=true∧(∀x∈q,x)∧
   ((e=.normal∧ ∃y,Inv y∧μ y<μ x∧cT m s (I y)∧ex y=ex x∧post y=post x)∨(e=.exit id∧ex x=.normal∧cT m s (post x))∨(e≠ .normal∧e≠ .exit id∧ex x=e∧cT m s (post x)))):
  ∀x,Inv x→aS P m (.block id (.loop body)) (I x) fun e t=>e=ex x∧t=post x:=by
 intro x0 hx0
 let Q: {x//Inv x}→Ex→St→Prop:=fun x e t=>e≠ .normal∧(if e=.exit id then ex x.1=.normal else ex x.1=e)∧cT m (fit m liveX t) (post x.1)
 have key:=aS.loop (P:=P) (m:=m) (body:=body) (α:= {x//Inv x}) (fun x=>I x.1) (fun x=>μ x.1) Q (fun x=>by
  obtain⟨n,p,e,b,q,s,hr,hb,hq,hc⟩:=h x.1 x.2
  obtain⟨o,ho,h1⟩:=Option.map_eq_some_iff.1 hr
  simp only[Prod.mk.injEq]at h1
  obtain⟨rfl,rfl,rfl,rfl⟩:=h1
  refine((jY hT hct bK n ho (kP hb) hq (hlc x.1 x.2)).1).mono fun e t ⟨h1,h2⟩=> ?_
  subst h1 h2
  rcases hc with⟨hn,y,hy,hm,hf,e1,e2⟩|⟨hn,e1,e2⟩|⟨h1,h2,h3,h4⟩
  ·rw[hn]at hf
   refine .inl ⟨hn,⟨y,hy⟩,hm,(cT.fit m live _).trans hf,fun e t hq=> ?_⟩
   simp only[Q,e1,e2]at hq⊢;exact hq
  ·rw[hn]at e2
   refine .inr ⟨by rw[hn];simp,by rw[hn];simp,by rw[hn];simp[e1],e2⟩
  ·have hi:nF o.ex=false:=by
    revert h1
    cases o.ex<;>simp[nF]
   rw[hi]at h4
   exact .inr ⟨h1,h1,by rw[if_neg h2];exact h3,h4⟩) ⟨x0,hx0⟩
 refine(aS.block (Q:=fun e t=>e=ex x0∧cT m (fit m liveX t) (post x0)) (key.mono fun e t hq=> ?_)).weaken fun e t ⟨h1,h2⟩=>⟨post x0,(cT.fit m liveX t).trans h2,h1,rfl⟩
 obtain⟨h1,h2,h3⟩:=hq
 by_cases e1:e=.exit id
 ·rw[if_pos e1]at h2
  exact .inl ⟨e1,h2.symm,h3⟩
 ·rw[if_neg e1]at h2
  exact .inr ⟨e1,h2.symm,h3⟩
end
end
section
noncomputable abbrev fFO:=Tryz.f197
noncomputable def IFO (l:Int) (f b:List Int) (i:Int):St:=aY fFO.ntmps [(1,.c (.ptr 0 0 0 0)),(26,.c (.view none (.ints .i64 f) f.length 1 none)),(27,.c (.int .i64 f.length)),(28,.c (.int .i64 i))] [.live (.cells [.int .i64 l,.view none (.ints .i64 f) f.length 1 none,.view none (.ints .i64 b) b.length 1 none])]
noncomputable def XFO:St:=aY fFO.ntmps [] []
noncomputable def YFO:St:=aY fFO.ntmps [(2,.c (.bool false))] []
theorem ZK (l:Int) (f b:List Int) (i:Int):aC 0 (a8 fFO 0) (aA fFO 0) (aG tt (a9 T77) ([]) 0 100 (a0 0 (a5 fFO)) (IFO l f b i) [(0,true),(0,true)])=
  some (.ret,(decide (i<(↑f.length:Int))&&(decide (0≤i)&&(decide (i<(↑f.length:Int))&&(decide (i.toNat<f.length)&&(rp4 (!bet (f.getD i.toNat 0) 0 7) ((!bet (f.getD i.toNat 0) 0 7)&&true)))))),[],YFO):=by kernel_rfl
theorem ZL (l:Int) (f b:List Int) (i:Int):aC 0 (a8 fFO 0) (aA fFO 0) (aG tt (a9 T77) ([]) 0 100 (a0 0 (a5 fFO)) (IFO l f b i) [(0,true),(0,false),(0,true)])=
  some (.ret,(decide (i<(↑f.length:Int))&&(decide (0≤i)&&(decide (i<(↑f.length:Int))&&(decide (i.toNat<f.length)&&(rp4 (!!bet (f.getD i.toNat 0) 0 7) (rp5 (bif !bet (f.getD i.toNat 0) 0 7 then true else f.getD i.toNat 0==l) true)))))),[],YFO):=by kernel_rfl
theorem ZM (l:Int) (f b:List Int) (i:Int):aC 0 (a8 fFO 0) (aA fFO 0) (aG tt (a9 T77) ([]) 0 100 (a0 0 (a5 fFO)) (IFO l f b i) [(0,true),(0,false),(0,false),(0,true),(0,true)])=
  some (.ret,(decide (i<(↑f.length:Int))&&(decide (0≤i)&&(decide (i<(↑f.length:Int))&&(decide (i.toNat<f.length)&&(rp4 (!!bet (f.getD i.toNat 0) 0 7) (rp3 (!bif !bet (f.getD i.toNat 0) 0 7 then true else f.getD i.toNat 0==l) (rp5 (decide (i>0)) (decide (0≤IntKind.i64.wrap (i-1))&&(decide (IntKind.i64.wrap (i-1)<(↑f.length:Int))&&(decide (i>0)&&(decide ((IntKind.i64.wrap (i-1)).toNat<f.length)&&(rp2 (decide (i>0)) ((!bif !bet (f.getD i.toNat 0) 0 7 then true else f.getD i.toNat 0==l)&&(rp8 (bif bif !bet (f.getD i.toNat 0) 0 7 then true else f.getD i.toNat 0==l then true else bif decide (i>0)then decide (f.getD (IntKind.i64.wrap (i-1)).toNat 0≥f.getD i.toNat 0)else false) true)))))))))))))),[],YFO):=by kernel_rfl
theorem ZN (l:Int) (f b:List Int) (i:Int):aC 0 (a8 fFO 0) (aA fFO 0) (aG tt (a9 T77) ([]) 0 100 (a0 0 (a5 fFO)) (IFO l f b i) [(0,true),(0,false),(0,false),(0,true),(0,false),(0,true)])=
  some (.ret,(decide (i<(↑f.length:Int))&&(decide (0≤i)&&(decide (i<(↑f.length:Int))&&(decide (i.toNat<f.length)&&(rp4 (!!bet (f.getD i.toNat 0) 0 7) (rp3 (!bif !bet (f.getD i.toNat 0) 0 7 then true else f.getD i.toNat 0==l) (rp5 (decide (i>0)) (decide (0≤IntKind.i64.wrap (i-1))&&(decide (IntKind.i64.wrap (i-1)<(↑f.length:Int))&&(decide (i>0)&&(decide ((IntKind.i64.wrap (i-1)).toNat<f.length)&&(rp2 (decide (i>0)) ((!bif !bet (f.getD i.toNat 0) 0 7 then true else f.getD i.toNat 0==l)&&(rp4 (!bif bif !bet (f.getD i.toNat 0) 0 7 then true else f.getD i.toNat 0==l then true else bif decide (i>0)then decide (f.getD (IntKind.i64.wrap (i-1)).toNat 0≥f.getD i.toNat 0)else false) (decide (0≤i)&&(decide (i<(↑b.length:Int))&&((!bif bif !bet (f.getD i.toNat 0) 0 7 then true else f.getD i.toNat 0==l then true else bif decide (i>0)then decide (f.getD (IntKind.i64.wrap (i-1)).toNat 0≥f.getD i.toNat 0)else false)&&(decide (i.toNat<b.length)&&(rp2 (!bif bif !bet (f.getD i.toNat 0) 0 7 then true else f.getD i.toNat 0==l then true else bif decide (i>0)then decide (f.getD (IntKind.i64.wrap (i-1)).toNat 0≥f.getD i.toNat 0)else false) ((bif bif bif !bet (f.getD i.toNat 0) 0 7 then true else f.getD i.toNat 0==l then true else bif decide (i>0)then decide (f.getD (IntKind.i64.wrap (i-1)).toNat 0≥f.getD i.toNat 0)else false then true else !bet (b.getD i.toNat 0) 1 30)&&true)))))))))))))))))))),[],YFO):=by kernel_rfl
theorem ZO (l:Int) (f b:List Int) (i:Int):aC 0 (a8 fFO 0) (aA fFO 0) (aG tt (a9 T77) ([]) 0 100 (a0 0 (a5 fFO)) (IFO l f b i) [(0,true),(0,false),(0,false),(0,true),(0,false),(0,false)])=
  some (.normal,(decide (i<(↑f.length:Int))&&(decide (0≤i)&&(decide (i<(↑f.length:Int))&&(decide (i.toNat<f.length)&&(rp4 (!!bet (f.getD i.toNat 0) 0 7) (rp3 (!bif !bet (f.getD i.toNat 0) 0 7 then true else f.getD i.toNat 0==l) (rp5 (decide (i>0)) (decide (0≤IntKind.i64.wrap (i-1))&&(decide (IntKind.i64.wrap (i-1)<(↑f.length:Int))&&(decide (i>0)&&(decide ((IntKind.i64.wrap (i-1)).toNat<f.length)&&(rp2 (decide (i>0)) ((!bif !bet (f.getD i.toNat 0) 0 7 then true else f.getD i.toNat 0==l)&&(rp4 (!bif bif !bet (f.getD i.toNat 0) 0 7 then true else f.getD i.toNat 0==l then true else bif decide (i>0)then decide (f.getD (IntKind.i64.wrap (i-1)).toNat 0≥f.getD i.toNat 0)else false) (decide (0≤i)&&(decide (i<(↑b.length:Int))&&((!bif bif !bet (f.getD i.toNat 0) 0 7 then true else f.getD i.toNat 0==l then true else bif decide (i>0)then decide (f.getD (IntKind.i64.wrap (i-1)).toNat 0≥f.getD i.toNat 0)else false)&&(decide (i.toNat<b.length)&&(rp2 (!bif bif !bet (f.getD i.toNat 0) 0 7 then true else f.getD i.toNat 0==l then true else bif decide (i>0)then decide (f.getD (IntKind.i64.wrap (i-1)).toNat 0≥f.getD i.toNat 0)else false) ((!bif bif bif !bet (f.getD i.toNat 0) 0 7 then true else f.getD i.toNat 0==l then true else bif decide (i>0)then decide (f.getD (IntKind.i64.wrap (i-1)).toNat 0≥f.getD i.toNat 0)else false then true else !bet (b.getD i.toNat 0) 1 30)&&true)))))))))))))))))))),[],IFO l f b (IntKind.i64.wrap (i+1))):=by kernel_rfl
theorem ZP (l:Int) (f b:List Int) (i:Int):aC 0 (a8 fFO 0) (aA fFO 0) (aG tt (a9 T77) ([]) 0 100 (a0 0 (a5 fFO)) (IFO l f b i) [(0,true),(0,false),(0,false),(0,false),(0,false),(0,true)])=
  some (.ret,(decide (i<(↑f.length:Int))&&(decide (0≤i)&&(decide (i<(↑f.length:Int))&&(decide (i.toNat<f.length)&&(rp4 (!!bet (f.getD i.toNat 0) 0 7) (rp3 (!bif !bet (f.getD i.toNat 0) 0 7 then true else f.getD i.toNat 0==l) (rp8 (!decide (i>0)) ((!bif !bet (f.getD i.toNat 0) 0 7 then true else f.getD i.toNat 0==l)&&(!decide (i>0)&&(rp4 (!bif bif !bet (f.getD i.toNat 0) 0 7 then true else f.getD i.toNat 0==l then true else false) (decide (0≤i)&&(decide (i<(↑b.length:Int))&&((!bif bif !bet (f.getD i.toNat 0) 0 7 then true else f.getD i.toNat 0==l then true else false)&&(decide (i.toNat<b.length)&&(rp2 (!bif bif !bet (f.getD i.toNat 0) 0 7 then true else f.getD i.toNat 0==l then true else false) ((bif bif bif !bet (f.getD i.toNat 0) 0 7 then true else f.getD i.toNat 0==l then true else false then true else !bet (b.getD i.toNat 0) 1 30)&&true)))))))))))))))),[],YFO):=by kernel_rfl
theorem ZQ (l:Int) (f b:List Int) (i:Int):aC 0 (a8 fFO 0) (aA fFO 0) (aG tt (a9 T77) ([]) 0 100 (a0 0 (a5 fFO)) (IFO l f b i) [(0,true),(0,false),(0,false),(0,false),(0,false),(0,false)])=
  some (.normal,(decide (i<(↑f.length:Int))&&(decide (0≤i)&&(decide (i<(↑f.length:Int))&&(decide (i.toNat<f.length)&&(rp4 (!!bet (f.getD i.toNat 0) 0 7) (rp3 (!bif !bet (f.getD i.toNat 0) 0 7 then true else f.getD i.toNat 0==l) (rp8 (!decide (i>0)) ((!bif !bet (f.getD i.toNat 0) 0 7 then true else f.getD i.toNat 0==l)&&(!decide (i>0)&&(rp4 (!bif bif !bet (f.getD i.toNat 0) 0 7 then true else f.getD i.toNat 0==l then true else false) (decide (0≤i)&&(decide (i<(↑b.length:Int))&&((!bif bif !bet (f.getD i.toNat 0) 0 7 then true else f.getD i.toNat 0==l then true else false)&&(decide (i.toNat<b.length)&&(rp2 (!bif bif !bet (f.getD i.toNat 0) 0 7 then true else f.getD i.toNat 0==l then true else false) ((!bif bif bif !bet (f.getD i.toNat 0) 0 7 then true else f.getD i.toNat 0==l then true else false then true else !bet (b.getD i.toNat 0) 1 30)&&true)))))))))))))))),[],IFO l f b (IntKind.i64.wrap (i+1))):=by kernel_rfl
theorem ZR (l:Int) (f b:List Int) (i:Int):aC 0 (a8 fFO 0) (aA fFO 0) (aG tt (a9 T77) ([]) 0 100 (a0 0 (a5 fFO)) (IFO l f b i) [(0,false)])=
  some (.exit 0,((!decide (i<(↑f.length:Int)))&&true),[],XFO):=by kernel_rfl
def fmT (l:Int) (f b:List Int) (i:Nat):Bool:=bet (f.getD i 0) 0 7&&(!(f.getD i 0==l)&&(!(decide ((i:Int)>0)&&decide (f.getD (i-1) 0≥f.getD i 0))&&bet (b.getD i 0) 1 30))
def fmB (l:Int) (f b:List Int):Bool:=bet l 0 7&&(bet (f.length:Int) 1 4&&(((b.length:Int)==(f.length:Int))&&c9 (fmT l f b) f.length 0))
theorem lFO (l:Int) (f b:List Int) (hl:b.length=f.length) (hf:f.length≤4):
  aS Tryz.prog 0 (.block 0 (.loop (a0 0 (a5 fFO)))) (IFO l f b 0) fun e t=>e=(bif c9 (fmT l f b) f.length 0 then .normal else .ret)∧t=bif c9 (fmT l f b) f.length 0 then XFO else YFO:=by
 refine aS.all hT t77 bK f.length (fmT l f b) (fun i=>IFO l f b i) XFO YFO .ret (.inr rfl) (a8 fFO 0) (aA fFO 0) (fun _=>[]) (fun _ _=>aI.nil) (fun i hi h=> ?_) (fun i hi h=> ?_)
  ⟨_,_,⟨_,_,ZR l f b f.length,by simp,by simp⟩⟩
 ·simp only[fmT,Bool.and_eq_true,rpS,Bool.not_eq_true']at h
  obtain⟨h1,h2,h3,h4⟩:=h
  cases c:decide ((i:Int)>0)with
  |true=>
   have hi0:(i:Int)>0:=of_decide_eq_true c
   rw[c,Bool.true_and]at h3
   have e:=ZO l f b i
   rw[aB (i:=(i:Int)+1) (by omega) (by omega),aB (i:=(i:Int)-1) (by omega) (by omega),show((i:Int)-1).toNat=i-1 from by omega,Int.toNat_natCast]at e
   refine⟨_,_,⟨_,_,e, ?_,by simp⟩⟩
   simp only[h1,h2,h3,h4,c,decide_true,bS,rpS]
   omega
  |false=>
   have e:=ZQ l f b i
   rw[aB (i:=(i:Int)+1) (by omega) (by omega),Int.toNat_natCast]at e
   refine⟨_,_,⟨_,_,e, ?_,by simp⟩⟩
   simp only[h1,h2,h4,c,bS,rpS]
   omega
 ·rw[if_neg (by intro h;cases h)]
  unfold fmT at h
  cases h1:bet (f.getD i 0) 0 7 with
  |false=>
   have e:=ZK l f b i
   rw[Int.toNat_natCast]at e
   refine⟨_,_,⟨_,_,e, ?_,by simp⟩⟩
   simp only[h1,bS,rpS]
   omega
  |true=>
   rw[h1,Bool.true_and]at h
   cases h2:f.getD i 0==l with
   |true=>
    have e:=ZL l f b i
    rw[Int.toNat_natCast]at e
    refine⟨_,_,⟨_,_,e, ?_,by simp⟩⟩
    simp only[h1,h2,bS,rpS]
    omega
   |false=>
    rw[h2,Bool.not_false,Bool.true_and]at h
    cases c:decide ((i:Int)>0)with
    |true=>
     have hi0:(i:Int)>0:=of_decide_eq_true c
     rw[c,Bool.true_and]at h
     cases h3:decide (f.getD (i-1) 0≥f.getD i 0)with
     |true=>
      have e:=ZM l f b i
      rw[aB (i:=(i:Int)-1) (by omega) (by omega),show((i:Int)-1).toNat=i-1 from by omega,Int.toNat_natCast]at e
      refine⟨_,_,⟨_,_,e, ?_,by simp⟩⟩
      simp only[h1,h2,h3,c,bS,rpS]
      omega
     |false=>
      rw[h3,Bool.not_false,Bool.true_and]at h
      have e:=ZN l f b i
      rw[aB (i:=(i:Int)-1) (by omega) (by omega),show((i:Int)-1).toNat=i-1 from by omega,Int.toNat_natCast]at e
      refine⟨_,_,⟨_,_,e, ?_,by simp⟩⟩
      simp only[h1,h2,h3,h,c,bS,rpS]
      omega
    |false=>
     rw[c,Bool.false_and,Bool.not_false,Bool.true_and]at h
     have e:=ZP l f b i
     rw[Int.toNat_natCast]at e
     refine⟨_,_,⟨_,_,e, ?_,by simp⟩⟩
     simp only[h1,h2,h,c,bS,rpS]
     omega
theorem a3C (l:Int) (f b:List Int) (lcv:List (Nat×LC)):aD tt (a9 T77) (lcv) 100 fFO [.agg [.int .i64 l,.view none (.ints .i64 f) f.length 1 none,.view none (.ints .i64 b) b.length 1 none]] [] [(0,true)]=
  some ⟨.c (.bool false),[],(rp5 (!bet l 0 7) ((!bet l 0 7)&&true)),[]⟩:=by kernel_rfl
theorem a3D (l:Int) (f b:List Int) (lcv:List (Nat×LC)):aD tt (a9 T77) (lcv) 100 fFO [.agg [.int .i64 l,.view none (.ints .i64 f) f.length 1 none,.view none (.ints .i64 b) b.length 1 none]] [] [(0,false),(0,true)]=
  some ⟨.c (.bool false),[],(rp5 (!!bet l 0 7) (rp8 (bif !bet l 0 7 then true else !bet (↑f.length:Int) 1 4) true)),[]⟩:=by kernel_rfl
theorem a3E (l:Int) (f b:List Int):aD tt (a9 T77) ([(0,⟨a8 fFO 0,IFO l f b 0,.normal,XFO⟩)]) 100 fFO [.agg [.int .i64 l,.view none (.ints .i64 f) f.length 1 none,.view none (.ints .i64 b) b.length 1 none]] [] [(0,false),(0,false),(0,false)]=
  some ⟨.c (.bool true),[],(rp5 (!!bet l 0 7) (rp7 (!bif !bet l 0 7 then true else !bet (↑f.length:Int) 1 4) ((!bif bif !bet l 0 7 then true else !bet (↑f.length:Int) 1 4 then true else(↑b.length:Int)!=(↑f.length:Int))&&true))),[IFO l f b 0=IFO l f b 0]⟩:=by kernel_rfl
theorem VM (l:Int) (f b:List Int):aD tt (a9 T77) ([(0,⟨a8 fFO 0,IFO l f b 0,.ret,YFO⟩)]) 100 fFO [.agg [.int .i64 l,.view none (.ints .i64 f) f.length 1 none,.view none (.ints .i64 b) b.length 1 none]] [] [(0,false),(0,false),(0,false)]=
  some ⟨.c (.bool false),[],(rp5 (!!bet l 0 7) (rp7 (!bif !bet l 0 7 then true else !bet (↑f.length:Int) 1 4) ((!bif bif !bet l 0 7 then true else !bet (↑f.length:Int) 1 4 then true else(↑b.length:Int)!=(↑f.length:Int))&&true))),[IFO l f b 0=IFO l f b 0]⟩:=by kernel_rfl
def rO:aN:=fun args h=>
 match args,h with
 |[.agg [.int .i64 l,.view _ (.ints .i64 f) n1 1 _,.view _ (.ints .i64 b) n2 1 _]],[]=>
  some (.c (.bool (fmB l f b)),[],[decide (b.length=f.length)])
 |_,_=>none
theorem mFO:aT Tryz.prog 197 rO:=by
 intro args h res h' o hnorm he ho
 unfold rO at he
 split at he
 case h_2=>cases he
 rename_i l nl1 f n1 cap1 nl2 b n2 cap2
 simp only[Option.some.injEq,Prod.mk.injEq]at he
 obtain⟨rfl,rfl,rfl⟩:=he
 simp only[List.mem_cons,List.not_mem_nil,or_false,forall_eq_or_imp,forall_eq,decide_eq_true_eq]at ho
 have o1:=ho
 simp only[bE,AV.norm,bF,aF.norm,Con.size,List.cons.injEq,AV.c.injEq,AV.agg.injEq,aF.view.injEq,aL,true_and,and_true]at hnorm
 obtain⟨⟨rfl,rfl,rfl⟩,rfl,rfl,rfl⟩:=hnorm
 have hl:((b.length:Int)==(f.length:Int))=true:=by rw[o1,beq_self_eq_true]
 unfold fmB
 cases h1:bet l 0 7 with
 |false=>exact mo t77 (a3C l f b []) (by simp only[h1,bS,rpS])
 |true=>
  cases h2:bet (f.length:Int) 1 4 with
  |false=>exact mo t77 (a3D l f b []) (by simp only[h1,h2,bS,rpS])
  |true=>
   rw[hl]
   have hf:=aX.1 h2
   have g:=lFO l f b o1 (by omega)
   cases h3:c9 (fmT l f b) f.length 0 with
   |true=>
    rw[h3]at g
    exact mo t77 (a3E l f b) (by simp only[h1,h2,hl,bne,bS,rpS]) (hlc:=(fun cc hcc=>aI.cons (c:=cc) (by cases hcc;kernel_rfl) (by cases hcc;exact g) aI.nil))
   |false=>
    rw[h3]at g
    exact mo t77 (VM l f b) (by simp only[h1,h2,hl,bne,bS,rpS]) (hlc:=(fun cc hcc=>aI.cons (c:=cc) (by cases hcc;kernel_rfl) (by cases hcc;exact g) aI.nil))
noncomputable abbrev fPD:=Tryz.f122
noncomputable def IPD (l:Int) (f b w:List Int) (s i:Int):St:=aY fPD.ntmps [(1,.c (.view none (.ints .i64 w) w.length 1 none)),(2,.c (.ptr 0 0 0 0)),(5,.c (.int .i64 s)),(9,.c (.view none (.ints .i64 f) f.length 1 none)),(10,.c (.int .i64 f.length)),(11,.c (.int .i64 i))] [.live (.cells [.int .i64 l,.view none (.ints .i64 f) f.length 1 none,.view none (.ints .i64 b) b.length 1 none])]
noncomputable def XPD (s:Int):St:=aY fPD.ntmps [(5,.c (.int .i64 s))] []
theorem a06 (l:Int) (f b w:List Int) (s i:Int):aC 0 (a8 fPD 0) (aA fPD 0) (aG tt (a9 T77) ([]) 0 100 (a0 0 (a5 fPD)) (IPD l f b w s i) [(0,true)])=
  some (.normal,(decide (i<(↑f.length:Int))&&(decide (0≤i)&&(decide (i<(↑f.length:Int))&&(decide (i.toNat<f.length)&&(decide (0≤f.getD i.toNat 0)&&(decide (f.getD i.toNat 0<(↑w.length:Int))&&(decide ((f.getD i.toNat 0).toNat<w.length)&&(decide (0≤i)&&(decide (i<(↑b.length:Int))&&(decide (i.toNat<b.length)&&(fok (w.getD (f.getD i.toNat 0).toNat 0)&&(fok (b.getD i.toNat 0)&&(fok s&&((fok (w.getD (f.getD i.toNat 0).toNat 0*b.getD i.toNat 0%31))&&true)))))))))))))),[],IPD l f b w ((s+w.getD (f.getD i.toNat 0).toNat 0*b.getD i.toNat 0%31)%31) (IntKind.i64.wrap (i+1))):=by kernel_rfl
theorem a07 (l:Int) (f b w:List Int) (s i:Int):aC 0 (a8 fPD 0) (aA fPD 0) (aG tt (a9 T77) ([]) 0 100 (a0 0 (a5 fPD)) (IPD l f b w s i) [(0,false)])=
  some (.exit 0,((!decide (i<(↑f.length:Int)))&&true),[],XPD (s)):=by kernel_rfl
noncomputable abbrev fLD:=Tryz.f145
noncomputable def ILD (l:Int) (f b w:List Int) (s i:Int):St:=aY fLD.ntmps [(1,.c (.view none (.ints .i64 w) w.length 1 none)),(2,.c (.ptr 0 0 0 0)),(5,.c (.int .i64 s)),(6,.c (.int .i64 i))] [.live (.cells [.int .i64 l,.view none (.ints .i64 f) f.length 1 none,.view none (.ints .i64 b) b.length 1 none])]
noncomputable def XLD (s:Int):St:=aY fLD.ntmps [(5,.c (.int .i64 s))] []
theorem ZS (l:Int) (f b w:List Int) (s i:Int):aC 0 (a8 fLD 0) (aA fLD 0) (aG tt (a9 T77) ([]) 0 100 (a0 0 (a5 fLD)) (ILD l f b w s i) [(0,true)])=
  some (.normal,(decide (i<(↑f.length:Int))&&(decide (0≤i)&&(decide (i<(↑b.length:Int))&&(decide (i.toNat<b.length)&&(decide (0≤i)&&(decide (i<(↑f.length:Int))&&(decide (i.toNat<f.length)&&(decide (0≤f.getD i.toNat 0)&&(decide (f.getD i.toNat 0<(↑w.length:Int))&&((decide ((f.getD i.toNat 0).toNat<w.length))&&true)))))))))),[],ILD l f b w ((IntKind.i64.wrap (s+IntKind.i64.wrap (b.getD i.toNat 0*w.getD (f.getD i.toNat 0).toNat 0))).tmod 31) (IntKind.i64.wrap (i+1))):=by kernel_rfl
theorem ZT (l:Int) (f b w:List Int) (s i:Int):aC 0 (a8 fLD 0) (aA fLD 0) (aG tt (a9 T77) ([]) 0 100 (a0 0 (a5 fLD)) (ILD l f b w s i) [(0,false)])=
  some (.exit 0,((!decide (i<(↑f.length:Int)))&&true),[],XLD (s)):=by kernel_rfl
def doS (f b w:List Int) (i:Nat) (s:Int):Int:=(s+w.getD (f.getD i 0).toNat 0*b.getD i 0%31)%31
def doL (f b w:List Int):Int:=bL (doS f b w) f.length 0 0
theorem C6 {x:Int} (h:fok x=true):0≤x∧x≤30:=by simp only[fok,Bool.and_eq_true,rpS,decide_eq_true_eq]at h;exact h
theorem HF (f b w:List Int) (i:Nat) (s:Int):fok (doS f b w i s)=true:=bY _
theorem lPD (l:Int) (f b w:List Int) (hb:b.length=f.length) (hw:w.length=8) (hf:f.length≤8) (h1:a7 b=true) (h2:a7 w=true) (h3:aK f=true):
  aS Tryz.prog 0 (.block 0 (.loop (a0 0 (a5 fPD)))) (IPD l f b w 0 0) fun e t=>e=.normal∧t=XPD (doL f b w):=by
 refine aS.count hT t77 bK (m:=0) (id:=0) (body:=a0 0 (a5 fPD)) (β:=Int) f.length (fun _ s=>fok s=true) (fun i s=>IPD l f b w s i) (fun s=>XPD s) (doS f b w) (a8 fPD 0) (aA fPD 0) (fun _ _=>[]) (fun _ _ _ _=>aI.nil) (fun i s hi hs=>⟨HF _ _ _ _ _, ?_⟩) (fun s _=>⟨_,_,⟨_,_,a07 l f b w s f.length,by simp,by simp⟩⟩) 0 rfl
 have hb1:=aO h1 i
 have hw1:=aO h2 (f.getD i 0).toNat
 have hx:=aX.1 (cA h3 hi)
 have e:=a06 l f b w s i
 rw[aB (by omega) (by omega),Int.toNat_natCast]at e
 refine⟨_,_,⟨_,_,e, ?_,by simp⟩⟩
 simp only[hb1,hw1,hs,bY,bS,rpS]
 omega
theorem a45 (l:Int) (f b w:List Int) (r:Int):aD tt (a9 T77) ([(0,⟨a8 fPD 0,IPD l f b w 0 0,.normal,XPD r⟩)]) 100 fPD [.agg [.int .i64 l,.view none (.ints .i64 f) f.length 1 none,.view none (.ints .i64 b) b.length 1 none],.c (.view none (.ints .i64 w) w.length 1 none)] [] []=
  some ⟨.c (.int .i64 r),[],true,[IPD l f b w 0 0=IPD l f b w 0 0]⟩:=by kernel_rfl
def P1:aN:=fun args h=>
 match args,h with
 |[.agg [.int .i64 l,.view _ (.ints .i64 f) n1 1 _,.view _ (.ints .i64 b) n2 1 _],.c (.view _ (.ints .i64 w) n3 1 _)],[]=>
  some (.c (.int .i64 (doL f b w)),[],[decide (b.length=f.length),decide (w.length=8),decide (f.length≤8),a7 b,a7 w,aK f])
 |_,_=>none
theorem mPD:aT Tryz.prog 122 P1:=by
 intro args h res h' o hnorm he ho
 unfold P1 at he
 split at he
 case h_2=>cases he
 rename_i l nl1 f n1 cap1 nl2 b n2 cap2 nl3 w n3 cap3
 simp only[Option.some.injEq,Prod.mk.injEq]at he
 obtain⟨rfl,rfl,rfl⟩:=he
 simp only[List.mem_cons,List.not_mem_nil,or_false,forall_eq_or_imp,forall_eq,decide_eq_true_eq]at ho
 obtain⟨o1,o2,o3,o4,o5,o6⟩:=ho
 simp only[bE,AV.norm,bF,aF.norm,Con.size,List.cons.injEq,AV.c.injEq,AV.agg.injEq,aF.view.injEq,aL,true_and,and_true]at hnorm
 obtain⟨⟨⟨rfl,rfl,rfl⟩,rfl,rfl,rfl⟩,rfl,rfl,rfl⟩:=hnorm
 exact mo t77 (a45 l f b w (doL f b w)) (by simp) (hlc:=(fun cc hcc=>aI.cons (c:=cc) (by cases hcc;kernel_rfl) (by cases hcc;exact lPD l f b w o1 o2 o3 o4 o5 o6) aI.nil))
theorem lLD (l:Int) (f b w:List Int) (hb:b.length=f.length) (hw:w.length=8) (hf:f.length≤8) (h1:a7 b=true) (h2:a7 w=true) (h3:aK f=true):
  aS Tryz.prog 0 (.block 0 (.loop (a0 0 (a5 fLD)))) (ILD l f b w 0 0) fun e t=>e=.normal∧t=XLD (doL f b w):=by
 refine aS.count hT t77 bK (m:=0) (id:=0) (body:=a0 0 (a5 fLD)) (β:=Int) f.length (fun _ s=>fok s=true) (fun i s=>ILD l f b w s i) (fun s=>XLD s) (doS f b w) (a8 fLD 0) (aA fLD 0) (fun _ _=>[]) (fun _ _ _ _=>aI.nil) (fun i s hi hs=>⟨HF _ _ _ _ _, ?_⟩) (fun s _=>⟨_,_,⟨_,_,ZT l f b w s f.length,by simp,by simp⟩⟩) 0 rfl
 have hb1:=aO h1 i
 have hw1:=aO h2 (f.getD i 0).toNat
 have hx:=aX.1 (cA h3 hi)
 have e:=ZS l f b w s i
 have q1:=C6 hb1
 have q2:=C6 hw1
 have q3:=C6 hs
 rw[Int.toNat_natCast]at e
 have p1:0≤b.getD i 0*w.getD (f.getD i 0).toNat 0:=Int.mul_nonneg q1.1 q2.1
 have p2:b.getD i 0*w.getD (f.getD i 0).toNat 0≤30*30:=Int.mul_le_mul q1.2 q2.2 q2.1 (by omega)
 have ed:(IntKind.i64.wrap (s+IntKind.i64.wrap (b.getD i 0*w.getD (f.getD i 0).toNat 0))).tmod 31=doS f b w i s:=by
  rw[aB (i:=b.getD i 0*w.getD (f.getD i 0).toNat 0) p1 (by omega),aB (by omega) (by omega),eR (by omega)]
  unfold doS
  rw[Int.add_emod_emod,Int.mul_comm]
 rw[ed,aB (by omega) (by omega)]at e
 refine⟨_,_,⟨_,_,e, ?_,by simp⟩⟩
 simp only[bS,rpS]
 omega
theorem a3O (l:Int) (f b w:List Int) (r:Int):aD tt (a9 T77) ([(0,⟨a8 fLD 0,ILD l f b w 0 0,.normal,XLD r⟩)]) 100 fLD [.agg [.int .i64 l,.view none (.ints .i64 f) f.length 1 none,.view none (.ints .i64 b) b.length 1 none],.c (.view none (.ints .i64 w) w.length 1 none)] [] []=
  some ⟨.c (.int .i64 r),[],true,[ILD l f b w 0 0=ILD l f b w 0 0]⟩:=by kernel_rfl
def FT:aN:=fun args h=>
 match args,h with
 |[.agg [.int .i64 l,.view _ (.ints .i64 f) n1 1 _,.view _ (.ints .i64 b) n2 1 _],.c (.view _ (.ints .i64 w) n3 1 _)],[]=>
  some (.c (.int .i64 (doL f b w)),[],[decide (b.length=f.length),decide (w.length=8),decide (f.length≤8),a7 b,a7 w,aK f])
 |_,_=>none
theorem mLD:aT Tryz.prog 145 FT:=by
 intro args h res h' o hnorm he ho
 unfold FT at he
 split at he
 case h_2=>cases he
 rename_i l nl1 f n1 cap1 nl2 b n2 cap2 nl3 w n3 cap3
 simp only[Option.some.injEq,Prod.mk.injEq]at he
 obtain⟨rfl,rfl,rfl⟩:=he
 simp only[List.mem_cons,List.not_mem_nil,or_false,forall_eq_or_imp,forall_eq,decide_eq_true_eq]at ho
 obtain⟨o1,o2,o3,o4,o5,o6⟩:=ho
 simp only[bE,AV.norm,bF,aF.norm,Con.size,List.cons.injEq,AV.c.injEq,AV.agg.injEq,aF.view.injEq,aL,true_and,and_true]at hnorm
 obtain⟨⟨⟨rfl,rfl,rfl⟩,rfl,rfl,rfl⟩,rfl,rfl,rfl⟩:=hnorm
 exact mo t77 (a3O l f b w (doL f b w)) (by simp) (hlc:=(fun cc hcc=>aI.cons (c:=cc) (by cases hcc;kernel_rfl) (by cases hcc;exact lLD l f b w o1 o2 o3 o4 o5 o6) aI.nil))
end
section
def ngA (k:List Int):List Int:=[IntKind.i64.wrap (0-k.getD 4 0)%31,IntKind.i64.wrap (0-k.getD 5 0)%31,IntKind.i64.wrap (0-k.getD 6 0)%31,IntKind.i64.wrap (0-k.getD 7 0)%31,IntKind.i64.wrap (0-k.getD 8 0)%31,IntKind.i64.wrap (0-k.getD 9 0)%31,IntKind.i64.wrap (0-k.getD 10 0)%31,IntKind.i64.wrap (0-k.getD 11 0)%31]
def zB (k:List Int):Bool:=k.getD 0 0==0&&(k.getD 1 0==0&&(k.getD 2 0==0&&(k.getD 3 0==0&&true)))
def xX (a:List Int):List Int:=[a.getD 0 0,a.getD 1 0,a.getD 2 0,a.getD 3 0,a.getD 4 0,a.getD 5 0,a.getD 6 0,a.getD 7 0]
def PV (a:List Int):List aF:=[.int .i64 (a.getD 0 0),.int .i64 (a.getD 1 0),.int .i64 (a.getD 2 0),.int .i64 (a.getD 3 0),.int .i64 (a.getD 4 0),.int .i64 (a.getD 5 0),.int .i64 (a.getD 6 0),.int .i64 (a.getD 7 0)]
def inK (R:List Int) (n:Nat) (a b c d:Int):List Int:=fQ R n [a,b,c,d,0,0,0,0,0,0,0,0]
theorem a3A (a b c d:Int) (n m:Nat) (R:List Int) (P:List Int):aD tt (a9 T77) ([]) 100 Tryz.f196 [.c (.ptr 0 0 0 0),.agg [.int .i64 a,.int .i64 b,.int .i64 c,.int .i64 d]] [.live (.cells [.sl 1 0 n 12 none,.sl 2 0 m 1 none]),.live (.ints .i64 R),.live (.ints .i64 P)] []=
  some ⟨.tup [.agg [.int .i64 (IntKind.i64.wrap (0-(fQ R n [a,b,c,d,0,0,0,0,0,0,0,0]).getD 4 0)%31),.int .i64 (IntKind.i64.wrap (0-(fQ R n [a,b,c,d,0,0,0,0,0,0,0,0]).getD 5 0)%31),.int .i64 (IntKind.i64.wrap (0-(fQ R n [a,b,c,d,0,0,0,0,0,0,0,0]).getD 6 0)%31),.int .i64 (IntKind.i64.wrap (0-(fQ R n [a,b,c,d,0,0,0,0,0,0,0,0]).getD 7 0)%31),.int .i64 (IntKind.i64.wrap (0-(fQ R n [a,b,c,d,0,0,0,0,0,0,0,0]).getD 8 0)%31),.int .i64 (IntKind.i64.wrap (0-(fQ R n [a,b,c,d,0,0,0,0,0,0,0,0]).getD 9 0)%31),.int .i64 (IntKind.i64.wrap (0-(fQ R n [a,b,c,d,0,0,0,0,0,0,0,0]).getD 10 0)%31),.int .i64 (IntKind.i64.wrap (0-(fQ R n [a,b,c,d,0,0,0,0,0,0,0,0]).getD 11 0)%31)],.c (.bool ((fQ R n [a,b,c,d,0,0,0,0,0,0,0,0]).getD 0 0==0&&((fQ R n [a,b,c,d,0,0,0,0,0,0,0,0]).getD 1 0==0&&((fQ R n [a,b,c,d,0,0,0,0,0,0,0,0]).getD 2 0==0&&((fQ R n [a,b,c,d,0,0,0,0,0,0,0,0]).getD 3 0==0&&true)))))],[.live (.cells [.sl 1 0 n 12 none,.sl 2 0 m 1 none]),.live (.ints .i64 R),.live (.ints .i64 P)],(decide (n≤274877906944)&&(decide (R.length=n*12)&&(a7 R&&(a7 [a,b,c,d,0,0,0,0,0,0,0,0]&&((hP R n)&&true))))),[]⟩:=by kernel_rfl
def FP:aN:=fun args h=>
 match args,h with
 |[.c (.ptr 0 0 0 0),.agg [.int .i64 a,.int .i64 b,.int .i64 c,.int .i64 d]],[.live (.cells [.sl 1 0 n 12 none,.sl 2 0 m 1 none]),.live (.ints .i64 R),.live (.ints .i64 P)]=>
  some (.tup [.agg (PV (ngA (inK R n a b c d))),.c (.bool (zB (inK R n a b c d)))],[.live (.cells [.sl 1 0 n 12 none,.sl 2 0 m 1 none]),.live (.ints .i64 R),.live (.ints .i64 P)],[decide (n≤274877906944),decide (R.length=n*12),a7 R,a7 [a,b,c,d,0,0,0,0,0,0,0,0],hP R n])
 |_,_=>none
theorem a6X:aP Tryz.prog 196 FP:=by
 intro args h res h' o he ho
 unfold FP at he
 split at he
 case h_2=>cases he
 rename_i a b c d n m R P
 simp only[Option.some.injEq,Prod.mk.injEq]at he
 obtain⟨rfl,rfl,rfl⟩:=he
 simp only[List.mem_cons,List.not_mem_nil,or_false,forall_eq_or_imp,forall_eq,decide_eq_true_eq]at ho
 obtain⟨o1,o2,o3,o4,o5⟩:=ho
 exact mo t77 (a3A a b c d n m R P) (by simp only[o1,o2,o3,o4,o5,decide_true,Bool.and_true,rpS])
noncomputable def T89:List bD:=[⟨196,[0],FP⟩,⟨197,[],nm rO⟩,⟨122,[],nm P1⟩,⟨145,[],nm FT⟩]++T77
theorem e89:a6 Tryz.prog T89:=by
 refine a6.append ?_ e77
 intro e he
 simp only[List.mem_cons,List.not_mem_nil,or_false]at he
 rcases he with rfl|rfl|rfl|rfl
 ·exact a6X
 ·exact mFO.ok
 ·exact mPD.ok
 ·exact mLD.ok
theorem t89:bJ Tryz.prog (a9 T89):=aM e89
noncomputable abbrev fPB:=Tryz.f165
noncomputable def IPB (l:Int) (f:List Int) (A:List Int) (B:Bool) (n:Nat) (o:List Int) (i:Int):St:=aY fPB.ntmps [(6,.c (.ptr 0 0 0 0)),(8,.c (.ptr 1 0 0 0)),(9,.c (.bool B)),(10,.c (.ptr 2 0 0 0)),(32,.c (.int .i64 (f.length:Int))),(33,.c (.int .i64 i))]
 [.live (.cells [.int .i64 0,.nils,.nils]),.live (.ints .i64 A),.live (.cells [.int .i64 l,.sl 3 0 ((f.length:Int).toNat) 1 none,.sl 4 0 n 1 none]),.live (.ints .i64 f),.live (.ints .i64 o)]
noncomputable def XPB (l:Int) (f:List Int) (B:Bool) (n:Nat) (o:List Int):St:=aY fPB.ntmps [(6,.c (.ptr 0 0 0 0)),(9,.c (.bool B)),(10,.c (.ptr 1 0 0 0))]
 [.live (.cells [.int .i64 0,.nils,.nils]),.live (.cells [.int .i64 l,.sl 2 0 ((f.length:Int).toNat) 1 none,.sl 3 0 n 1 none]),.live (.ints .i64 f),.live (.ints .i64 o)]
theorem a04 (l:Int) (f:List Int) (A:List Int) (B:Bool) (n:Nat) (o:List Int) (i:Int):aC 0 (a8 fPB 0) (aA fPB 0) (aG tt (a9 T89) ([]) 0 100 (a0 0 (a5 fPB)) (IPB l f A B n o i) [(0,true)])=
  some (.normal,(decide (i<(↑f.length:Int))&&(decide (0≤i)&&(decide (i<8)&&(decide (i.toNat<A.length)&&(decide (n=o.length)&&((decide (n+1≤274877906944))&&true)))))),[],IPB l f A B (n+1) (o++[A.getD i.toNat 0]) (IntKind.i64.wrap (i+1))):=by kernel_rfl
theorem a05 (l:Int) (f:List Int) (A:List Int) (B:Bool) (n:Nat) (o:List Int) (i:Int):aC 0 (a8 fPB 0) (aA fPB 0) (aG tt (a9 T89) ([]) 0 100 (a0 0 (a5 fPB)) (IPB l f A B n o i) [(0,false)])=
  some (.exit 0,((!decide (i<(↑f.length:Int)))&&true),[],XPB l f B (n) (o)):=by kernel_rfl
def plS (A:List Int) (i:Nat) (o:List Int):List Int:=o++[A.getD i 0]
def plO (A:List Int) (n:Nat):List Int:=bL (plS A) n 0 []
theorem lPB (l:Int) (f:List Int) (A:List Int) (B:Bool) (hA:A.length=8) (hf:f.length≤8):
  aS Tryz.prog 0 (.block 0 (.loop (a0 0 (a5 fPB)))) (IPB l f A B 0 [] 0) fun e t=>e=.normal∧t=XPB l f B (plO A f.length).length (plO A f.length):=by
 refine aS.count hT t89 bK (m:=0) (id:=0) (body:=a0 0 (a5 fPB)) (β:=List Int) f.length (fun i o=>o.length=i) (fun i o=>IPB l f A B o.length o i) (fun o=>XPB l f B o.length o) (plS A) (a8 fPB 0) (aA fPB 0) (fun _ _=>[]) (fun _ _ _ _=>aI.nil) (fun i o hi ho=>⟨by simp[plS,ho], ?_⟩) (fun o _=>⟨_,_,⟨_,_,a05 l f A B o.length o f.length,by simp,by simp⟩⟩) [] rfl
 have e:=a04 l f A B o.length o i
 rw[aB (by omega) (by omega),Int.toNat_natCast]at e
 rw[show(plS A i o).length=o.length+1 from by simp[plS]]
 refine⟨_,_,⟨_,_,e, ?_,by simp⟩⟩
 simp only[bS,rpS]
 omega
def plK (k l:Int) (f:List Int):List Int:=inK (cH (cC k f) f.length).1 (cH (cC k f) f.length).2.length ((aH k l).getD 0 0) ((aH k l).getD 1 0) ((aH k l).getD 2 0) ((aH k l).getD 3 0)
def plA (k l:Int) (f:List Int):List Int:=plO (xX (ngA (plK k l f))) f.length
theorem a43 (k l:Int) (f:List Int):aD tt (a9 T89) ([(0,⟨a8 fPB 0,IPB l f (xX (ngA (plK k l f))) (zB (plK k l f)) 0 [] 0,.normal,XPB l f (zB (plK k l f)) (plA k l f).length (plA k l f)⟩)]) 100 fPB [.c (.int .i64 k),.c (.int .i64 l),.c (.view none (.ints .i64 f) f.length 1 none)] [] [(0,true)]=
  some ⟨.tup [.agg [.int .i64 l,.sl 0 0 (↑f.length:Int).toNat 1 none,.sl 1 0 (plA k l f).length 1 none],.c (.bool (bif zB (plK k l f)then fmB l f (plA k l f)else false))],[.live (.ints .i64 f),.live (.ints .i64 (plA k l f))],(decide (f.length≤274877906944)&&(bet k 1 2&&(aK f&&(decide (f.length*4=(cC k f).length)&&(decide (f.length≤8)&&(a7 (cC k f)&&(bet k 1 2&&(bet l 0 7&&(decide ((cH (cC k f) f.length).snd.length≤274877906944)&&(decide ((cH (cC k f) f.length).fst.length=(cH (cC k f) f.length).snd.length*12)&&(a7 (cH (cC k f) f.length).fst&&(a7 [(aH k l).getD 0 0,(aH k l).getD 1 0,(aH k l).getD 2 0,(aH k l).getD 3 0,0,0,0,0,0,0,0,0]&&(hP (cH (cC k f) f.length).fst (cH (cC k f) f.length).snd.length&&(decide (f.length≤274877906944)&&((rp2 (decide ((↑f.length:Int)≤(↑f.length:Int))) true)&&(decide ((↑f.length:Int)≤274877906944)&&(rp2 (zB (plK k l f)) (decide ((↑f.length:Int).toNat=f.length)&&(decide ((plA k l f).length=(plA k l f).length)&&((decide ((plA k l f).length=f.length))&&true)))))))))))))))))))),[IPB l f (xX (ngA (plK k l f))) (zB (plK k l f)) 0 [] 0=IPB l f (xX (ngA (plK k l f))) (zB (plK k l f)) 0 [] 0]⟩:=by kernel_rfl
theorem a44 (k l:Int) (f:List Int):aD tt (a9 T89) ([(0,⟨a8 fPB 0,IPB l f (xX (ngA (plK k l f))) (zB (plK k l f)) 0 [] 0,.normal,XPB l f (zB (plK k l f)) (plA k l f).length (plA k l f)⟩)]) 100 fPB [.c (.int .i64 k),.c (.int .i64 l),.c (.view none (.ints .i64 f) f.length 1 none)] [] [(0,false)]=
  some ⟨.tup [.agg [.int .i64 l,.sl 0 0 (↑f.length:Int).toNat 1 none,.sl 1 0 (plA k l f).length 1 none],.c (.bool false)],[.live (.ints .i64 f),.live (.ints .i64 (plA k l f))],(decide (f.length≤274877906944)&&(bet k 1 2&&(aK f&&(decide (f.length*4=(cC k f).length)&&(decide (f.length≤8)&&(a7 (cC k f)&&(bet k 1 2&&(bet l 0 7&&(decide ((cH (cC k f) f.length).snd.length≤274877906944)&&(decide ((cH (cC k f) f.length).fst.length=(cH (cC k f) f.length).snd.length*12)&&(a7 (cH (cC k f) f.length).fst&&(a7 [(aH k l).getD 0 0,(aH k l).getD 1 0,(aH k l).getD 2 0,(aH k l).getD 3 0,0,0,0,0,0,0,0,0]&&(hP (cH (cC k f) f.length).fst (cH (cC k f) f.length).snd.length&&(decide (f.length≤274877906944)&&((rp2 (decide ((↑f.length:Int)≤(↑f.length:Int))) true)&&(decide ((↑f.length:Int)≤274877906944)&&(rp2 (!zB (plK k l f)) ((!zB (plK k l f))&&true)))))))))))))))))),[IPB l f (xX (ngA (plK k l f))) (zB (plK k l f)) 0 [] 0=IPB l f (xX (ngA (plK k l f))) (zB (plK k l f)) 0 [] 0]⟩:=by kernel_rfl
theorem pK {xs:List Int} (hx:a7 xs=true): ∀(f i:Nat) (s:List Int×List Int),s.1.length=s.2.length*12→hP s.1 s.2.length=true→hP (eX xs f i s).1 (eX xs f i s).2.length=true
 |0,i,s,_,h=>h
 |f+1,i,s,h1,h=>by
  simp only[eX]
  cases c:decide (ld4 (KK xs s.1 s.2.length i)<0)
  ·refine pK hx f (i+1) _ (by simp[t0,h1];omega) ?_
   have:=of_decide_eq_false c
   rw[cond_false,List.length_append]
   exact vJ h1 h (GJ hx _ _ _) (by omega)
  ·exact pK hx f (i+1) _ h1 h
theorem NK {k:Int} {v:List Int} (hk:bet k 1 2=true) (hv:aK v=true):hP (spK k v).1 (spK k v).2.length=true:=pK (gR hk hv) _ _ _ rfl rfl
theorem xS (A:List Int) (n:Nat):(plO A n).length=n:=by
 have: ∀f i o,(bL (plS A) f i o).length=o.length+f:=fun f=>by
  induction f with
  |zero=>intro i o;rfl
  |succ f ih=>intro i o;show(bL (plS A) f (i+1) (plS A i o)).length=_;rw[ih];simp[plS];omega
 have:=this n 0 []
 unfold plO;simpa using this
def plB (k l:Int) (f:List Int):Bool:=bif zB (plK k l f)then fmB l f (plA k l f)else false
def P9:aN:=fun args h=>
 match args,h with
 |[.c (.int .i64 k),.c (.int .i64 l),.c (.view _ (.ints .i64 f) n 1 _)],[]=>
  some (.tup [.agg [.int .i64 l,.sl 0 0 f.length 1 none,.sl 1 0 (plA k l f).length 1 none],.c (.bool (plB k l f))],[.live (.ints .i64 f),.live (.ints .i64 (plA k l f))],[bet k 1 2,bet l 0 7,aK f,decide (f.length≤8)])
 |_,_=>none
theorem mPB:aT Tryz.prog 165 P9:=by
 intro args h res h' o hnorm he ho
 unfold P9 at he
 split at he
 case h_2=>cases he
 rename_i k l nl f n cap
 simp only[Option.some.injEq,Prod.mk.injEq]at he
 obtain⟨rfl,rfl,rfl⟩:=he
 simp only[List.mem_cons,List.not_mem_nil,or_false,forall_eq_or_imp,forall_eq,decide_eq_true_eq]at ho
 obtain⟨o1,o2,o3,o4⟩:=ho
 simp only[bE,AV.norm,bF,aF.norm,Con.size,List.cons.injEq,AV.c.injEq,AV.agg.injEq,aF.view.injEq,aL,true_and,and_true]at hnorm
 obtain⟨rfl,rfl,rfl⟩:=hnorm
 obtain⟨s1,s2,s3⟩:=rJ o1 o3
 have s4:=NK o1 o3
 unfold spK at s1 s2 s3 s4
 have la:(plA k l f).length=f.length:=xS _ _
 have rf:=hC o1 o2
 have hr:a7 [(aH k l).getD 0 0,(aH k l).getD 1 0,(aH k l).getD 2 0,(aH k l).getD 3 0,0,0,0,0,0,0,0,0]=true:=by
  simp only[a7,List.all_cons,List.all_nil,Bool.and_eq_true,rpS]
  exact⟨aO rf 0,aO rf 1,aO rf 2,aO rf 3,by decide⟩
 have g:=lPB l f (xX (ngA (plK k l f))) (zB (plK k l f)) rfl o4
 cases hz:zB (plK k l f)with
 |true=>
  exact mo t89 (a43 k l f) (by simp only[o1,o2,o3,o4,s3,s4,hr,hz,la,gR o1 o3,l7,bS,rpS];omega) (hlc:=(fun cc hcc=>aI.cons (c:=cc) (by cases hcc;kernel_rfl) (by cases hcc;exact g) aI.nil))
 |false=>
  rw[show plB k l f=false from by unfold plB;rw[hz,cond_false]]
  exact mo t89 (a44 k l f) (by simp only[o1,o2,o3,o4,s3,s4,hr,hz,la,gR o1 o3,l7,bS,rpS];omega) (hlc:=(fun cc hcc=>aI.cons (c:=cc) (by cases hcc;kernel_rfl) (by cases hcc;exact g) aI.nil))
end
section
noncomputable abbrev fLP:=Tryz.f212
noncomputable def ILP (k l:Int) (f:List Int) (n:Nat) (m:List (List Int)) (i:Int):St:=aY fLP.ntmps [(0,.c (.int .i64 k)),(1,.c (.int .i64 l)),(2,.c (.view none (.ints .i64 f) f.length 1 none)),(6,.c (.ptr 0 0 0 0)),(8,.c (.sl 1 0 n 1 none)),(9,.c (.int .i64 i))] [.live (.cells [.int .i64 0,.nils,.nils]),.live (.ivs .i64 m)]
noncomputable def XLP (k l:Int) (f:List Int) (n:Nat) (m:List (List Int)):St:=aY fLP.ntmps [(0,.c (.int .i64 k)),(1,.c (.int .i64 l)),(2,.c (.view none (.ints .i64 f) f.length 1 none)),(6,.c (.ptr 0 0 0 0)),(8,.c (.sl 1 0 n 1 none))] [.live (.cells [.int .i64 0,.nils,.nils]),.live (.ivs .i64 m)]
theorem ZX (k l:Int) (f:List Int) (n:Nat) (m:List (List Int)) (i:Int):aC 0 (a8 fLP 0) (aA fLP 0) (aG tt (a9 T89) ([]) 0 100 (a0 0 (a5 fLP)) (ILP k l f n m i) [(0,true)])=
  some (.normal,(decide (i<(↑f.length:Int))&&(decide (0≤i)&&(decide (i<(↑f.length:Int))&&(decide (i.toNat<f.length)&&(bet k 1 2&&(bet (f.getD i.toNat 0) 0 7&&(decide (n=m.length)&&((decide (n+1≤274877906944))&&true)))))))),[],ILP k l f (n+1) (m++[aH k (f.getD i.toNat 0)]) (IntKind.i64.wrap (i+1))):=by kernel_rfl
theorem ZY (k l:Int) (f:List Int) (n:Nat) (m:List (List Int)) (i:Int):aC 0 (a8 fLP 0) (aA fLP 0) (aG tt (a9 T89) ([]) 0 100 (a0 0 (a5 fLP)) (ILP k l f n m i) [(0,false)])=
  some (.exit 0,((!decide (i<(↑f.length:Int)))&&true),[],XLP k l f (n) (m)):=by kernel_rfl
theorem lLP (k l:Int) (f:List Int) (hk:bet k 1 2=true) (hf:aK f=true) (hl:f.length≤1000):
  aS Tryz.prog 0 (.block 0 (.loop (a0 0 (a5 fLP)))) (ILP k l f 0 [] 0) fun e t=>e=.normal∧t=XLP k l f (rfL k f).length (rfL k f):=by
 refine aS.count hT t89 bK (m:=0) (id:=0) (body:=a0 0 (a5 fLP)) f.length (fun i o=>o.length=i) (fun i o=>ILP k l f o.length o i) (fun o=>XLP k l f o.length o) (rfS k f) (a8 fLP 0) (aA fLP 0)
  (fun _ _=>[]) (fun _ _ _ _=>aI.nil) (fun i o hi h=>⟨by simp[rfS,h], ?_⟩) (fun o h=>⟨_,_,⟨_,_,ZY k l f o.length o f.length,by simp,by simp⟩⟩) [] rfl
 have hb:=cA hf hi
 have e:=ZX k l f o.length o i
 rw[aB (by omega) (by omega),Int.toNat_natCast]at e
 unfold rfS
 rw[List.length_append]
 refine⟨_,_,⟨_,_,e, ?_,by simp⟩⟩
 simp only[hk,hb,bS,rpS]
 omega
theorem a3Q (k l:Int) (f:List Int):aD tt (a9 T89) ([(0,⟨a8 fLP 0,ILP k l f 0 [] 0,.normal,XLP k l f (rfL k f).length (rfL k f)⟩)]) 100 fLP [.c (.int .i64 k),.c (.int .i64 l),.c (.view none (.ints .i64 f) f.length 1 none)] [] [(0,true)]=
  some ⟨.tup [.agg [.int .i64 0,.nils,.nils],.c (.bool false)],[],(decide ((rfL k f).length=(rfL k f).length)&&(decide ((rfL k f).length≤1000)&&(qW (rfL k f)&&((decide ((↑(bQ (rfL k f)).length:Int)<(↑(rfL k f).length:Int)))&&true)))),[ILP k l f 0 [] 0=ILP k l f 0 [] 0]⟩:=by kernel_rfl
theorem a3R (k l:Int) (f:List Int):aD tt (a9 T89) ([(0,⟨a8 fLP 0,ILP k l f 0 [] 0,.normal,XLP k l f (rfL k f).length (rfL k f)⟩)]) 100 fLP [.c (.int .i64 k),.c (.int .i64 l),.c (.view none (.ints .i64 f) f.length 1 none)] [] [(0,false),(0,true)]=
  some ⟨.tup [.agg [.int .i64 0,.nils,.nils],.c (.bool false)],[],(decide ((rfL k f).length=(rfL k f).length)&&(decide ((rfL k f).length≤1000)&&(qW (rfL k f)&&(!decide ((↑(bQ (rfL k f)).length:Int)<(↑(rfL k f).length:Int))&&(bet k 1 2&&(bet l 0 7&&(decide ((rfL k f).length=(rfL k f).length)&&(decide ((rfL k f).length≤1000)&&(bT 4 (rfL k f)&&(decide ((aH k l).length=4)&&(a7 (aH k l)&&((!byB (rfL k f) (aH k l))&&true)))))))))))),[ILP k l f 0 [] 0=ILP k l f 0 [] 0]⟩:=by kernel_rfl
theorem a3S (k l:Int) (f:List Int):aD tt (a9 T89) ([(0,⟨a8 fLP 0,ILP k l f 0 [] 0,.normal,XLP k l f (rfL k f).length (rfL k f)⟩)]) 100 fLP [.c (.int .i64 k),.c (.int .i64 l),.c (.view none (.ints .i64 f) f.length 1 none)] [] [(0,false),(0,false)]=
  some ⟨.tup [.agg [.int .i64 l,.sl 0 0 (0+f.length) 1 none,.sl 1 0 (byD (rfL k f) (aH k l)).length 1 none],.c (.bool true)],[.live (.ints .i64 ([]++f)),.live (.ints .i64 (byD (rfL k f) (aH k l)))],(decide ((rfL k f).length=(rfL k f).length)&&(decide ((rfL k f).length≤1000)&&(qW (rfL k f)&&(!decide ((↑(bQ (rfL k f)).length:Int)<(↑(rfL k f).length:Int))&&(bet k 1 2&&(bet l 0 7&&(decide ((rfL k f).length=(rfL k f).length)&&(decide ((rfL k f).length≤1000)&&(bT 4 (rfL k f)&&(decide ((aH k l).length=4)&&(a7 (aH k l)&&(!!byB (rfL k f) (aH k l)&&((decide (0+f.length≤274877906944))&&true))))))))))))),[ILP k l f 0 [] 0=ILP k l f 0 [] 0]⟩:=by kernel_rfl
def jV (b:Bool) (x:List Int):List Int:=bif b then x else []
def slB (k l:Int) (f:List Int):Bool:=bif decide (((bQ (rfL k f)).length:Int)<((rfL k f).length:Int))then false else byB (rfL k f) (aH k l)
def slA (k l:Int) (f:List Int):List Int:=byD (rfL k f) (aH k l)
def P4:aN:=fun args h=>
 match args,h with
 |[.c (.int .i64 k),.c (.int .i64 l),.c (.view _ (.ints .i64 f) n 1 _)],[]=>
  some (.tup [.agg [.int .i64 (bif slB k l f then l else 0),.sl 0 0 (jV (slB k l f) f).length 1 none,.sl 1 0 (jV (slB k l f) (slA k l f)).length 1 none],.c (.bool (slB k l f))],[.live (.ints .i64 (jV (slB k l f) f)),.live (.ints .i64 (jV (slB k l f) (slA k l f)))],[bet k 1 2,bet l 0 7,aK f,decide (f.length≤8),qW (rfL k f)])
 |_,_=>none
theorem mLP:aT Tryz.prog 212 P4:=by
 intro args h res h' o hnorm he ho
 unfold P4 at he
 split at he
 case h_2=>cases he
 rename_i k l nl f n cap
 simp only[Option.some.injEq,Prod.mk.injEq]at he
 obtain⟨rfl,rfl,rfl⟩:=he
 simp only[List.mem_cons,List.not_mem_nil,or_false,forall_eq_or_imp,forall_eq,decide_eq_true_eq]at ho
 obtain⟨o1,o2,o3,o4,o5⟩:=ho
 simp only[bE,AV.norm,bF,aF.norm,Con.size,List.cons.injEq,AV.c.injEq,AV.agg.injEq,aF.view.injEq,aL,true_and,and_true]at hnorm
 obtain⟨rfl,rfl,rfl⟩:=hnorm
 obtain⟨r1,r2⟩:=E1 o1 o3
 have q1:=iQ o1 o2
 have q2:=hC o1 o2
 have bad:bA Tryz.prog 212 [.c (.int .i64 k),.c (.int .i64 l),.c (.view none (.ints .i64 f) f.length 1 none)] [] (.tup [.agg [.int .i64 0,.nils,.nils],.c (.bool false)]) []→slB k l f=false→
   bA Tryz.prog 212 [.c (.int .i64 k),.c (.int .i64 l),.c (.view none (.ints .i64 f) f.length 1 none)] [] (.tup [.agg [.int .i64 (bif slB k l f then l else 0),.sl 0 0 (jV (slB k l f) f).length 1 none,.sl 1 0 (jV (slB k l f) (slA k l f)).length 1 none],.c (.bool (slB k l f))]) [.live (.ints .i64 (jV (slB k l f) f)),.live (.ints .i64 (jV (slB k l f) (slA k l f)))]:=fun hm h=>by
  rw[h];exact(hm.nil1 (es:=1) (c0:=.ints .i64 []) rfl rfl).nil1 (es:=1) (c0:=.ints .i64 []) rfl rfl
 have lo: ∀cc,a5 fLP=cc→aI Tryz.prog 0 [(0,⟨a8 fLP 0,ILP k l f 0 [] 0,.normal,XLP k l f (rfL k f).length (rfL k f)⟩)] cc:=fun cc h=>by
  subst h
  exact aI.cons (by kernel_rfl) (lLP k l f o1 o3 (by omega)) aI.nil
 cases c1:decide (((bQ (rfL k f)).length:Int)<((rfL k f).length:Int))with
 |true=>
  exact bad (mo t89 (a3Q k l f) (by simp only[o5,c1,bS,rpS];omega) (hlc:=(fun cc hcc=>lo cc (by cases hcc;rfl)))) (by unfold slB;rw[c1,cond_true])
 |false=>
  cases c2:byB (rfL k f) (aH k l)with
  |false=>
   exact bad (mo t89 (a3R k l f) (by simp only[o1,o2,o5,c1,c2,r2,q1,q2,decide_true,bS,rpS];omega) (hlc:=(fun cc hcc=>lo cc (by cases hcc;rfl)))) (by unfold slB;rw[c1,cond_false,c2])
  |true=>
   have e:slB k l f=true:=by unfold slB;rw[c1,cond_false,c2]
   rw[e]
   have m:=mo (f:=212) t89 (a3S k l f) (by simp only[o1,o2,o5,c1,c2,r2,q1,q2,decide_true,bS,rpS];omega) (hlc:=(fun cc hcc=>lo cc (by cases hcc;rfl)))
   rw[Nat.zero_add]at m
   exact m
noncomputable def T90:List bD:=[⟨165,[],nm P9⟩,⟨212,[],nm P4⟩]++T89
theorem e90:a6 Tryz.prog T90:=by
 refine a6.append ?_ e89
 intro e he
 simp only[List.mem_cons,List.not_mem_nil,or_false]at he
 rcases he with rfl|rfl
 ·exact mPB.ok
 ·exact mLP.ok
end
section
def sr (p:List Int→Bool) (q:Nat→Bool):Nat→Nat→List Int→Option (List Int)
 |_,0,f=>bif p f then some f else none
 |0,_+1,_=>none
 |j+1,m+1,f=>bif q (7-j)then(match sr p q j m (f++[((7-j:Nat):Int)])with
  |some x=>some x
  |none=>sr p q j (m+1) f)else sr p q j (m+1) f
def shS (k l:Int) (c:List Bool) (at_ m:Nat) (f:List Int):Option (List Int):=sr (slB k l) (fun i=>c.getD i false&& !((i:Int)==l)) (8-at_) m f
def isO (r:Option (List Int)):Bool:=r.isSome
def lsO (r:Option (List Int)):List Int:=r.getD []
def byO (k l:Int) (r:Option (List Int)):List Int:=jV r.isSome (slA k l (lsO r))
def fH (t:List Int→Bool):Nat→Nat→List Int→Bool
 |_,0,f=>t f
 |0,_+1,_=>true
 |j+1,m+1,f=>fH t j m (f++[((7-j:Nat):Int)])&&fH t j (m+1) f
def lsT (k:Int) (f:List Int):Bool:=aK f&&(decide (f.length≤8)&&qW (rfL k f))
noncomputable abbrev fLS:=Tryz.f181
def G3 (x:Nat):aN:=fun args h=>
 match args,h with
 |[.c (.int .i64 k),.c (.int .i64 l),.c (.view _ (.bools c) n 1 _),.c (.view _ (.ints .i64 f) n2 1 _),.c (.int .i64 at_),.c (.int .i64 m)],[]=>
  some (.tup [.agg [.int .i64 (bif isO (shS k l c at_.toNat m.toNat f)then l else 0),.sl 0 0 (lsO (shS k l c at_.toNat m.toNat f)).length 1 none,.sl 1 0 (byO k l (shS k l c at_.toNat m.toNat f)).length 1 none],.c (.bool (isO (shS k l c at_.toNat m.toNat f)))],[.live (.ints .i64 (lsO (shS k l c at_.toNat m.toNat f))),.live (.ints .i64 (byO k l (shS k l c at_.toNat m.toNat f)))],[decide (m<x),bet k 1 2,bet l 0 7,decide (c.length=8),bet at_ 0 8,decide (f.length+m.toNat≤8),bet m 0 4,fH (lsT k) (8-at_.toNat) m.toNat f])
 |_,_=>none
noncomputable def T91 (x:Nat):List bD:=⟨181,[],nm (G3 x)⟩::T90
noncomputable def ILS (k l:Int) (c:List Bool) (f:List Int) (m i:Int):St:=aY fLS.ntmps [(0,.c (.int .i64 k)),(1,.c (.int .i64 l)),(2,.c (.view none (.bools c) c.length 1 none)),(3,.c (.view none (.ints .i64 f) f.length 1 none)),(5,.c (.int .i64 m)),(12,.c (.ptr 0 0 0 0)),(14,.c (.int .i64 i))] [.live (.cells [.int .i64 0,.nils,.nils])]
noncomputable def XLS:St:=aY fLS.ntmps [(12,.c (.ptr 0 0 0 0))] [.live (.cells [.int .i64 0,.nils,.nils])]
noncomputable def YLS (l:Int) (n1 n2:Nat) (f b:List Int):St:=aY fLS.ntmps [(12,.c (.ptr 0 0 0 0)),(13,.c (.bool true))] [.live (.cells [.int .i64 l,.sl 1 0 n1 1 none,.sl 2 0 n2 1 none]),.live (.ints .i64 f),.live (.ints .i64 b)]
theorem ZZ (x:Nat) (k l:Int) (c:List Bool) (f:List Int) (m i:Int):aC 0 (a8 fLS 0) (aA fLS 0) (aG tt (a9 (T91 x)) ([]) 0 100 (a0 0 (a5 fLS)) (ILS k l c f m i) [(0,true),(0,true)])=
  some (.normal,(decide (i<8)&&(decide (0≤i)&&(decide (i<(↑c.length:Int))&&(decide (i.toNat<c.length)&&(rp4 (!c.getD i.toNat false) true))))),[],ILS k l c f m (IntKind.i64.wrap (i+1))):=by kernel_rfl
theorem a00 (x:Nat) (k l:Int) (c:List Bool) (f:List Int) (m i:Int):aC 0 (a8 fLS 0) (aA fLS 0) (aG tt (a9 (T91 x)) ([]) 0 100 (a0 0 (a5 fLS)) (ILS k l c f m i) [(0,true),(0,false),(0,true)])=
  some (.normal,(decide (i<8)&&(decide (0≤i)&&(decide (i<(↑c.length:Int))&&(decide (i.toNat<c.length)&&(rp3 (!!c.getD i.toNat false) ((bif !c.getD i.toNat false then true else i==l)&&true)))))),[],ILS k l c f m (IntKind.i64.wrap (i+1))):=by kernel_rfl
theorem a01 (x:Nat) (k l:Int) (c:List Bool) (f:List Int) (m i:Int):aC 0 (a8 fLS 0) (aA fLS 0) (aG tt (a9 (T91 x)) ([]) 0 100 (a0 0 (a5 fLS)) (ILS k l c f m i) [(0,true),(0,false),(0,false),(0,true)])=
  some (.ret,(decide (i<8)&&(decide (0≤i)&&(decide (i<(↑c.length:Int))&&(decide (i.toNat<c.length)&&(rp3 (!!c.getD i.toNat false) ((!bif !c.getD i.toNat false then true else i==l)&&(decide (0+f.length≤274877906944)&&(decide (0+f.length=([]++f).length)&&(decide (0+f.length+1≤274877906944)&&(decide (0+f.length+1=([]++f++[i]).length)&&(decide (IntKind.i64.wrap (m-1)<(↑x:Int))&&(bet k 1 2&&(bet l 0 7&&(decide (c.length=8)&&(bet (IntKind.i64.wrap (i+1)) 0 8&&(decide (([]++f++[i]).length+(IntKind.i64.wrap (m-1)).toNat≤8)&&(bet (IntKind.i64.wrap (m-1)) 0 4&&(fH (lsT k) (8-(IntKind.i64.wrap (i+1)).toNat) (IntKind.i64.wrap (m-1)).toNat ([]++f++[i])&&((isO (shS k l c (IntKind.i64.wrap (i+1)).toNat (IntKind.i64.wrap (m-1)).toNat ([]++f++[i])))&&true))))))))))))))))))),[],YLS (bif isO (shS k l c (IntKind.i64.wrap (i+1)).toNat (IntKind.i64.wrap (m-1)).toNat ([]++f++[i]))then l else 0) ((lsO (shS k l c (IntKind.i64.wrap (i+1)).toNat (IntKind.i64.wrap (m-1)).toNat ([]++f++[i]))).length) ((byO k l (shS k l c (IntKind.i64.wrap (i+1)).toNat (IntKind.i64.wrap (m-1)).toNat ([]++f++[i]))).length) (lsO (shS k l c (IntKind.i64.wrap (i+1)).toNat (IntKind.i64.wrap (m-1)).toNat ([]++f++[i]))) (byO k l (shS k l c (IntKind.i64.wrap (i+1)).toNat (IntKind.i64.wrap (m-1)).toNat ([]++f++[i])))):=by kernel_rfl
theorem a02 (x:Nat) (k l:Int) (c:List Bool) (f:List Int) (m i:Int):aC 0 (a8 fLS 0) (aA fLS 0) (aG tt (a9 (T91 x)) ([]) 0 100 (a0 0 (a5 fLS)) (ILS k l c f m i) [(0,true),(0,false),(0,false),(0,false)])=
  some (.normal,(decide (i<8)&&(decide (0≤i)&&(decide (i<(↑c.length:Int))&&(decide (i.toNat<c.length)&&(rp3 (!!c.getD i.toNat false) ((!bif !c.getD i.toNat false then true else i==l)&&(decide (0+f.length≤274877906944)&&(decide (0+f.length=([]++f).length)&&(decide (0+f.length+1≤274877906944)&&(decide (0+f.length+1=([]++f++[i]).length)&&(decide (IntKind.i64.wrap (m-1)<(↑x:Int))&&(bet k 1 2&&(bet l 0 7&&(decide (c.length=8)&&(bet (IntKind.i64.wrap (i+1)) 0 8&&(decide (([]++f++[i]).length+(IntKind.i64.wrap (m-1)).toNat≤8)&&(bet (IntKind.i64.wrap (m-1)) 0 4&&(fH (lsT k) (8-(IntKind.i64.wrap (i+1)).toNat) (IntKind.i64.wrap (m-1)).toNat ([]++f++[i])&&((!isO (shS k l c (IntKind.i64.wrap (i+1)).toNat (IntKind.i64.wrap (m-1)).toNat ([]++f++[i])))&&true))))))))))))))))))),[],ILS k l c f m (IntKind.i64.wrap (i+1))):=by kernel_rfl
theorem a03 (x:Nat) (k l:Int) (c:List Bool) (f:List Int) (m i:Int):aC 0 (a8 fLS 0) (aA fLS 0) (aG tt (a9 (T91 x)) ([]) 0 100 (a0 0 (a5 fLS)) (ILS k l c f m i) [(0,false)])=
  some (.exit 0,((!decide (i<8))&&true),[],XLS):=by kernel_rfl
theorem a3T (x:Nat) (k l:Int) (c:List Bool) (f:List Int) (a m:Int) (lcv:List (Nat×LC)):aD tt (a9 (T91 x)) (lcv) 100 fLS [.c (.int .i64 k),.c (.int .i64 l),.c (.view none (.bools c) c.length 1 none),.c (.view none (.ints .i64 f) f.length 1 none),.c (.int .i64 a),.c (.int .i64 m)] [] [(0,true)]=
  some ⟨.tup [.agg [.int .i64 (bif slB k l f then l else 0),.sl 0 0 (jV (slB k l f) f).length 1 none,.sl 1 0 (jV (slB k l f) (slA k l f)).length 1 none],.c (.bool (slB k l f))],[.live (.ints .i64 (jV (slB k l f) f)),.live (.ints .i64 (jV (slB k l f) (slA k l f)))],((m==0)&&(bet k 1 2&&(bet l 0 7&&(aK f&&(decide (f.length≤8)&&((qW (rfL k f))&&true)))))),[]⟩:=by kernel_rfl
theorem a3U (x:Nat) (k l:Int) (c:List Bool) (f:List Int) (a m:Int):aD tt (a9 (T91 x)) ([(0,⟨a8 fLS 0,ILS k l c f m a,.normal,XLS⟩)]) 100 fLS [.c (.int .i64 k),.c (.int .i64 l),.c (.view none (.bools c) c.length 1 none),.c (.view none (.ints .i64 f) f.length 1 none),.c (.int .i64 a),.c (.int .i64 m)] [] [(0,false)]=
  some ⟨.tup [.agg [.int .i64 0,.nils,.nils],.c (.bool false)],[],((!m==0)&&true),[ILS k l c f m a=ILS k l c f m a]⟩:=by kernel_rfl
theorem VO (x:Nat) (k l:Int) (c:List Bool) (f:List Int) (a m:Int) (l':Int) (n1 n2:Nat) (f' b:List Int):aD tt (a9 (T91 x)) ([(0,⟨a8 fLS 0,ILS k l c f m a,.ret,YLS l' n1 n2 f' b⟩)]) 100 fLS [.c (.int .i64 k),.c (.int .i64 l),.c (.view none (.bools c) c.length 1 none),.c (.view none (.ints .i64 f) f.length 1 none),.c (.int .i64 a),.c (.int .i64 m)] [] [(0,false)]=
  some ⟨.tup [.agg [.int .i64 l',.sl 0 0 n1 1 none,.sl 1 0 n2 1 none],.c (.bool true)],[.live (.ints .i64 f'),.live (.ints .i64 b)],((!m==0)&&true),[ILS k l c f m a=ILS k l c f m a]⟩:=by kernel_rfl
theorem a0C (p:List Int→Bool) (q:Nat→Bool) (j:Nat) (f:List Int):sr p q j 0 f=bif p f then some f else none:=by cases j<;>rfl
theorem H3 (t:List Int→Bool) (j:Nat) (f:List Int):fH t j 0 f=t f:=by cases j<;>rfl
def srQ (l:Int) (c:List Bool) (i:Nat):Bool:=c.getD i false&& !((i:Int)==l)
theorem tN (k l:Int) (c:List Bool) (a m:Nat) (f:List Int):shS k l c a m f=sr (slB k l) (srQ l c) (8-a) m f:=rfl
noncomputable def YO (k l:Int) (r:Option (List Int)):St:=YLS (bif isO r then l else 0) (lsO r).length (byO k l r).length (lsO r) (byO k l r)
theorem lLS (x:Nat) (ht:bJ Tryz.prog (a9 (T91 x))) (k l:Int) (c:List Bool) (f:List Int) (M:Nat) (hx:M<x) (hk:bet k 1 2=true) (hl:bet l 0 7=true) (hc:c.length=8) (hf:f.length+(M+1)≤8) (hM:M≤3):
  ∀j,j≤8∧fH (lsT k) j (M+1) f=true→aS Tryz.prog 0 (.block 0 (.loop (a0 0 (a5 fLS)))) (ILS k l c f ((M+1:Nat):Int) ((8-j:Nat):Int)) fun e t=>
   e=(bif isO (sr (slB k l) (srQ l c) j (M+1) f)then .ret else .normal)∧t=(bif isO (sr (slB k l) (srQ l c) j (M+1) f)then YO k l (sr (slB k l) (srQ l c) j (M+1) f)else XLS):=by
 refine aS.roundsR hT ht bK (m:=0) (id:=0) (body:=a0 0 (a5 fLS)) (α:=Nat) (fun j=>j≤8∧fH (lsT k) j (M+1) f=true) (fun j=>ILS k l c f ((M+1:Nat):Int) ((8-j:Nat):Int)) (fun j=>j) (a8 fLS 0) (aA fLS 0)
  (fun j=>bif isO (sr (slB k l) (srQ l c) j (M+1) f)then .ret else .normal) (fun j=>bif isO (sr (slB k l) (srQ l c) j (M+1) f)then YO k l (sr (slB k l) (srQ l c) j (M+1) f)else XLS) (fun _=>[]) (fun _ _=>aI.nil) (fun j hj=> ?_)
 obtain⟨h1,h2⟩:=hj
 cases j with
 |zero=>exact⟨_,_,_,_,_,_,a03 x k l c f ((M+1:Nat):Int) ((8:Nat):Int),by simp,by simp,.inr (.inl ⟨rfl,rfl,rfl⟩)⟩
 |succ j=>
  have hi:8-(j+1)=7-j:=by omega
  have h3:fH (lsT k) j M (f++[((7-j:Nat):Int)])=true∧fH (lsT k) j (M+1) f=true:=by
   have:(fH (lsT k) j M (f++[((7-j:Nat):Int)])&&fH (lsT k) j (M+1) f)=true:=h2
   rwa[Bool.and_eq_true]at this
  rw[hi]
  have w1:IntKind.i64.wrap (((7-j:Nat):Int)+1)=((8-j:Nat):Int):=by rw[aB (by omega) (by omega)];omega
  have w2:IntKind.i64.wrap (((M+1:Nat):Int)-1)=(M:Int):=by rw[aB (by omega) (by omega)];omega
  have hj8:8-(8-j)=j:=by omega
  have sk:srQ l c (7-j)=false→sr (slB k l) (srQ l c) (j+1) (M+1) f=sr (slB k l) (srQ l c) j (M+1) f:=fun h=>by
   show(bif srQ l c (7-j)then _ else _)=_
   rw[h,cond_false]
  cases hq:c.getD (7-j) false with
  |false=>
   have e:=ZZ x k l c f ((M+1:Nat):Int) ((7-j:Nat):Int)
   rw[w1,Int.toNat_natCast]at e
   rw[sk (by unfold srQ;rw[hq,Bool.false_and])]
   refine⟨_,_,_,_,_,_,e, ?_,by simp,.inl ⟨rfl,j,⟨by omega,h3.2⟩,Nat.lt_succ_self _,rfl,rfl,rfl⟩⟩
   simp only[hq,bS,rpS]
   omega
  |true=>
   cases hz:((7-j:Nat):Int)==l with
   |true=>
    have e:=a00 x k l c f ((M+1:Nat):Int) ((7-j:Nat):Int)
    rw[w1,Int.toNat_natCast]at e
    rw[sk (by unfold srQ;rw[hz,Bool.not_true,Bool.and_false])]
    refine⟨_,_,_,_,_,_,e, ?_,by simp,.inl ⟨rfl,j,⟨by omega,h3.2⟩,Nat.lt_succ_self _,rfl,rfl,rfl⟩⟩
    simp only[hq,hz,bS,rpS]
    omega
   |false=>
    have go:sr (slB k l) (srQ l c) (j+1) (M+1) f=(match sr (slB k l) (srQ l c) j M (f++[((7-j:Nat):Int)])with|some y=>some y|none=>sr (slB k l) (srQ l c) j (M+1) f):=by
     show(bif srQ l c (7-j)then _ else _)=_
     rw[show srQ l c (7-j)=true from by unfold srQ;rw[hq,hz];rfl,cond_true]
    have b1:bet ((8-j:Nat):Int) 0 8=true:=aX.2 (by omega)
    have b2:bet (M:Int) 0 4=true:=aX.2 (by omega)
    rw[go]
    cases hr:sr (slB k l) (srQ l c) j M (f++[((7-j:Nat):Int)])with
    |some y=>
     have e:=a01 x k l c f ((M+1:Nat):Int) ((7-j:Nat):Int)
     rw[w1,w2]at e
     simp only[Int.toNat_natCast,List.nil_append,tN,hj8,hr]at e
     refine⟨_,_,_,_,_,_,e, ?_,by simp,.inr (.inr ⟨by simp,by simp,rfl,rfl⟩)⟩
     simp only[hq,hz,hk,hl,hc,b1,b2,h3.1,isO,Option.isSome_some,List.length_append,List.length_cons,List.length_nil,decide_true,bS,rpS]
     omega
    |none=>
     have e:=a02 x k l c f ((M+1:Nat):Int) ((7-j:Nat):Int)
     rw[w1,w2]at e
     simp only[Int.toNat_natCast,List.nil_append,tN,hj8,hr]at e
     refine⟨_,_,_,_,_,_,e, ?_,by simp,.inl ⟨rfl,j,⟨by omega,h3.2⟩,Nat.lt_succ_self _,rfl,rfl,rfl⟩⟩
     simp only[hq,hz,hk,hl,hc,b1,b2,h3.1,isO,Option.isSome_none,List.length_append,List.length_cons,List.length_nil,decide_true,bS,rpS]
     omega
theorem mLS: ∀x,aT Tryz.prog 181 (G3 x):=by
 intro x
 induction x with
 |zero=>
  intro args h res h' o hnorm he ho
  unfold G3 at he
  split at he
  case h_2=>cases he
  rename_i k l nl c n cap nl2 f n2 cap2 a m
  simp only[Option.some.injEq,Prod.mk.injEq]at he
  obtain⟨rfl,rfl,rfl⟩:=he
  simp only[List.mem_cons,List.not_mem_nil,or_false,forall_eq_or_imp,forall_eq,decide_eq_true_eq]at ho
  obtain⟨o1,o2,o3,o4,o5,o6,o7,o8⟩:=ho
  have:=aX.1 o7
  omega
 |succ x ih=>
  have ht:bJ Tryz.prog (a9 (T91 x)):=aM fun e he=>by
   rcases List.mem_cons.1 he with rfl|he
   ·exact ih.ok
   ·exact e90 e he
  intro args h res h' o hnorm he ho
  unfold G3 at he
  split at he
  case h_2=>cases he
  rename_i k l nl c n cap nl2 f n2 cap2 a m
  simp only[Option.some.injEq,Prod.mk.injEq]at he
  obtain⟨rfl,rfl,rfl⟩:=he
  simp only[List.mem_cons,List.not_mem_nil,or_false,forall_eq_or_imp,forall_eq,decide_eq_true_eq]at ho
  obtain⟨o1,o2,o3,o4,o5,o6,o7,o8⟩:=ho
  simp only[bE,AV.norm,bF,aF.norm,Con.size,List.cons.injEq,AV.c.injEq,AV.agg.injEq,aF.view.injEq,aL,true_and,and_true]at hnorm
  obtain⟨⟨rfl,rfl,rfl⟩,rfl,rfl,rfl⟩:=hnorm
  have hm:=aX.1 o7
  have ha:=aX.1 o5
  obtain⟨a,rfl⟩: ∃a':Nat,a=(a':Int):=⟨a.toNat,by omega⟩
  obtain⟨m,rfl⟩: ∃m':Nat,m=(m':Int):=⟨m.toNat,by omega⟩
  simp only[Int.toNat_natCast]at o6 o8⊢
  cases m with
  |zero=>
   rw[H3]at o8
   simp only[lsT,Bool.and_eq_true,rpS,decide_eq_true_eq]at o8
   rw[show shS k l c a 0 f=bif slB k l f then some f else none from a0C _ _ _ _]
   have e:=a3T x k l c f a ((0:Nat):Int)
   cases hs:slB k l f with
   |true=>
    rw[hs]at e
    exact mo ht (e []) (by simp[o2,o3,o8.1,o8.2.1,o8.2.2]) (hlc:=(fun cc hcc=>aI.nil))
   |false=>
    rw[hs]at e
    simp only[jV,cond_false]at e
    show bA Tryz.prog 181 _ _ (.tup [.agg [.int .i64 0,.sl 0 0 ([]:List Int).length 1 none,.sl 1 0 ([]:List Int).length 1 none],.c (.bool false)]) [.live (.ints .i64 []),.live (.ints .i64 [])]
    exact mo ht (e []) (by simp[o2,o3,o8.1,o8.2.1,o8.2.2]) (hlc:=(fun cc hcc=>aI.nil))
  |succ M=>
   have g:=lLS x ht k l c f M (by omega) o2 o3 o4 o6 (by omega) (8-a) ⟨by omega,o8⟩
   rw[show 8-(8-a)=a from by omega,←tN]at g
   have h0:(((M+1:Nat):Int)==0)=false:=by rw[beq_eq_false_iff_ne];omega
   cases hr:shS k l c a (M+1) f with
   |some y=>
    rw[hr]at g
    exact mo ht (VO x k l c f a ((M+1:Nat):Int) l (lsO (some y)).length (byO k l (some y)).length (lsO (some y)) (byO k l (some y))) (by simp only[h0,bS,rpS]) (hlc:=(fun cc hcc=>aI.cons (c:=cc) (by cases hcc;kernel_rfl) (by cases hcc;exact g) aI.nil))
   |none=>
    rw[hr]at g
    exact((mo ht (a3U x k l c f a ((M+1:Nat):Int)) (by simp only[h0,bS,rpS]) (hlc:=(fun cc hcc=>aI.cons (c:=cc) (by cases hcc;kernel_rfl) (by cases hcc;exact g) aI.nil))).nil1 (es:=1) (c0:=.ints .i64 []) rfl rfl).nil1 (es:=1) (c0:=.ints .i64 []) rfl rfl
end
section
theorem QT:c7 (fun m=>fH (lsT 1) 8 (m+1) []) 4=true:=by kernel_rfl
theorem QU:c7 (fun m=>fH (lsT 2) 8 (m+1) []) 4=true:=by kernel_rfl
theorem X0 {k:Int} (hk:bet k 1 2=true) {m:Nat} (hm:m<4):fH (lsT k) 8 (m+1) []=true:=by
 have:=aX.1 hk
 rcases(by omega:k=1∨k=2)with rfl|rfl
 ·exact aV QT m hm
 ·exact aV QU m hm
end
section
noncomputable def T92:List bD:=[⟨181,[],nm (G3 5)⟩]++T90
theorem e92:a6 Tryz.prog T92:=by
 refine a6.append ?_ e90
 intro e he
 simp only[List.mem_cons,List.not_mem_nil,or_false]at he
 subst he;exact(mLS 5).ok
theorem t92:bJ Tryz.prog (a9 T92):=aM e92
noncomputable abbrev fLO:=Tryz.f144
noncomputable def ILO (k l:Int) (c:List Bool) (i:Int):St:=aY fLO.ntmps [(0,.c (.int .i64 k)),(1,.c (.int .i64 l)),(2,.c (.view none (.bools c) c.length 1 none)),(6,.c (.ptr 0 0 0 0)),(8,.c (.int .i64 i))] [.live (.cells [.int .i64 0,.nils,.nils])]
noncomputable def XLO:St:=aY fLO.ntmps [(6,.c (.ptr 0 0 0 0))] [.live (.cells [.int .i64 0,.nils,.nils])]
noncomputable def YLO (l:Int) (n1 n2:Nat) (f b:List Int):St:=aY fLO.ntmps [(6,.c (.ptr 0 0 0 0)),(7,.c (.bool true))] [.live (.cells [.int .i64 l,.sl 1 0 n1 1 none,.sl 2 0 n2 1 none]),.live (.ints .i64 f),.live (.ints .i64 b)]
theorem ZU (k l:Int) (c:List Bool) (i:Int):aC 0 (a8 fLO 0) (aA fLO 0) (aG tt (a9 T92) ([]) 0 100 (a0 0 (a5 fLO)) (ILO k l c i) [(0,true),(0,true)])=
  some (.ret,(decide (i≤4)&&(decide (i<5)&&(bet k 1 2&&(bet l 0 7&&(decide (c.length=8)&&(decide (0+i.toNat≤8)&&(bet i 0 4&&(fH (lsT k) 8 i.toNat []&&((isO (shS k l c (Int.toNat 0) i.toNat []))&&true))))))))),[],YLO (bif isO (shS k l c (Int.toNat 0) i.toNat [])then l else 0) ((lsO (shS k l c (Int.toNat 0) i.toNat [])).length) ((byO k l (shS k l c (Int.toNat 0) i.toNat [])).length) (lsO (shS k l c (Int.toNat 0) i.toNat [])) (byO k l (shS k l c (Int.toNat 0) i.toNat []))):=by kernel_rfl
theorem ZV (k l:Int) (c:List Bool) (i:Int):aC 0 (a8 fLO 0) (aA fLO 0) (aG tt (a9 T92) ([]) 0 100 (a0 0 (a5 fLO)) (ILO k l c i) [(0,true),(0,false)])=
  some (.normal,(decide (i≤4)&&(decide (i<5)&&(bet k 1 2&&(bet l 0 7&&(decide (c.length=8)&&(decide (0+i.toNat≤8)&&(bet i 0 4&&(fH (lsT k) 8 i.toNat []&&((!isO (shS k l c (Int.toNat 0) i.toNat []))&&true))))))))),[],ILO k l c (IntKind.i64.wrap (i+1))):=by kernel_rfl
theorem ZW (k l:Int) (c:List Bool) (i:Int):aC 0 (a8 fLO 0) (aA fLO 0) (aG tt (a9 T92) ([]) 0 100 (a0 0 (a5 fLO)) (ILO k l c i) [(0,false)])=
  some (.exit 0,((!decide (i≤4))&&true),[],XLO):=by kernel_rfl
theorem a3P (k l:Int) (c:List Bool):aD tt (a9 T92) ([(0,⟨a8 fLO 0,ILO k l c 1,.normal,XLO⟩)]) 100 fLO [.c (.int .i64 k),.c (.int .i64 l),.c (.view none (.bools c) c.length 1 none)] [] []=
  some ⟨.tup [.agg [.int .i64 0,.nils,.nils],.c (.bool false)],[],true,[ILO k l c 1=ILO k l c 1]⟩:=by kernel_rfl
theorem VN (k l:Int) (c:List Bool) (l':Int) (n1 n2:Nat) (f' b:List Int):aD tt (a9 T92) ([(0,⟨a8 fLO 0,ILO k l c 1,.ret,YLO l' n1 n2 f' b⟩)]) 100 fLO [.c (.int .i64 k),.c (.int .i64 l),.c (.view none (.bools c) c.length 1 none)] [] []=
  some ⟨.tup [.agg [.int .i64 l',.sl 0 0 n1 1 none,.sl 1 0 n2 1 none],.c (.bool true)],[.live (.ints .i64 f'),.live (.ints .i64 b)],true,[ILO k l c 1=ILO k l c 1]⟩:=by kernel_rfl
def ofR (k l:Int) (c:List Bool):Nat→Option (List Int)
 |0=>none
 |j+1=>match shS k l c 0 (4-j) []with
  |some y=>some y
  |none=>ofR k l c j
noncomputable def YOO (k l:Int) (r:Option (List Int)):St:=YLO (bif isO r then l else 0) (lsO r).length (byO k l r).length (lsO r) (byO k l r)
theorem lLO (k l:Int) (c:List Bool) (hk:bet k 1 2=true) (hl:bet l 0 7=true) (hc:c.length=8):
  ∀j,j≤4→aS Tryz.prog 0 (.block 0 (.loop (a0 0 (a5 fLO)))) (ILO k l c ((5-j:Nat):Int)) fun e t=>
   e=(bif isO (ofR k l c j)then .ret else .normal)∧t=(bif isO (ofR k l c j)then YOO k l (ofR k l c j)else XLO):=by
 refine aS.roundsR hT t92 bK (m:=0) (id:=0) (body:=a0 0 (a5 fLO)) (α:=Nat) (fun j=>j≤4) (fun j=>ILO k l c ((5-j:Nat):Int)) (fun j=>j) (a8 fLO 0) (aA fLO 0)
  (fun j=>bif isO (ofR k l c j)then .ret else .normal) (fun j=>bif isO (ofR k l c j)then YOO k l (ofR k l c j)else XLO) (fun _=>[]) (fun _ _=>aI.nil) (fun j hj=> ?_)
 cases j with
 |zero=>exact⟨_,_,_,_,_,_,ZW k l c ((5:Nat):Int),by simp,by simp,.inr (.inl ⟨rfl,rfl,rfl⟩)⟩
 |succ j=>
  rw[show 5-(j+1)=4-j from by omega]
  have w1:IntKind.i64.wrap (((4-j:Nat):Int)+1)=((5-j:Nat):Int):=by rw[aB (by omega) (by omega)];omega
  have b1:bet ((4-j:Nat):Int) 0 4=true:=aX.2 (by omega)
  have al:=X0 hk (m:=3-j) (by omega)
  rw[show 3-j+1=4-j from by omega]at al
  have go:ofR k l c (j+1)=(match shS k l c 0 (4-j) []with|some y=>some y|none=>ofR k l c j):=rfl
  rw[go]
  cases hr:shS k l c 0 (4-j) []with
  |some y=>
   have e:=ZU k l c ((4-j:Nat):Int)
   simp only[Int.toNat_natCast,Int.toNat_zero,hr]at e
   refine⟨_,_,_,_,_,_,e, ?_,by simp,.inr (.inr ⟨by simp,by simp,rfl,rfl⟩)⟩
   simp only[hk,hl,hc,b1,al,isO,Option.isSome_some,decide_true,bS,rpS]
   omega
  |none=>
   have e:=ZV k l c ((4-j:Nat):Int)
   rw[w1]at e
   simp only[Int.toNat_natCast,Int.toNat_zero,hr]at e
   refine⟨_,_,_,_,_,_,e, ?_,by simp,.inl ⟨rfl,j,by omega,Nat.lt_succ_self _,rfl,rfl,rfl⟩⟩
   simp only[hk,hl,hc,b1,al,isO,Option.isSome_none,decide_true,bS,rpS]
   omega
def P3:aN:=fun args h=>
 match args,h with
 |[.c (.int .i64 k),.c (.int .i64 l),.c (.view _ (.bools c) n 1 _)],[]=>
  some (.tup [.agg [.int .i64 (bif isO (ofR k l c 4)then l else 0),.sl 0 0 (lsO (ofR k l c 4)).length 1 none,.sl 1 0 (byO k l (ofR k l c 4)).length 1 none],.c (.bool (isO (ofR k l c 4)))],[.live (.ints .i64 (lsO (ofR k l c 4))),.live (.ints .i64 (byO k l (ofR k l c 4)))],[bet k 1 2,bet l 0 7,decide (c.length=8)])
 |_,_=>none
theorem mLO:aT Tryz.prog 144 P3:=by
 intro args h res h' o hnorm he ho
 unfold P3 at he
 split at he
 case h_2=>cases he
 rename_i k l nl c n cap
 simp only[Option.some.injEq,Prod.mk.injEq]at he
 obtain⟨rfl,rfl,rfl⟩:=he
 simp only[List.mem_cons,List.not_mem_nil,or_false,forall_eq_or_imp,forall_eq,decide_eq_true_eq]at ho
 obtain⟨o1,o2,o3⟩:=ho
 simp only[bE,AV.norm,bF,aF.norm,Con.size,List.cons.injEq,AV.c.injEq,AV.agg.injEq,aF.view.injEq,aL,true_and,and_true]at hnorm
 obtain⟨rfl,rfl,rfl⟩:=hnorm
 have g:=lLO k l c o1 o2 o3 4 (Nat.le_refl _)
 cases hr:ofR k l c 4 with
 |some y=>
  rw[hr]at g
  exact mo t92 (VN k l c l (lsO (some y)).length (byO k l (some y)).length (lsO (some y)) (byO k l (some y))) (by simp) (hlc:=(fun cc hcc=>aI.cons (c:=cc) (by cases hcc;kernel_rfl) (by cases hcc;exact g) aI.nil))
 |none=>
  rw[hr]at g
  exact((mo t92 (a3P k l c) (by simp) (hlc:=(fun cc hcc=>aI.cons (c:=cc) (by cases hcc;kernel_rfl) (by cases hcc;exact g) aI.nil))).nil1 (es:=1) (c0:=.ints .i64 []) rfl rfl).nil1 (es:=1) (c0:=.ints .i64 []) rfl rfl
end
section
theorem bA.kill {P:Program} {f:FuncId} {args:List AV} {h h':List aW} {res:AV} (hm:bA P f args h res h') {id:Nat} {c:Con} (hs:Heap.get h' id=.live c):bA P f args h res (h'.set id .dead):=by
 refine⟨hm.1,fun {X w0 ρ0} m vs hl hv=> ?_⟩
 refine Calls.mono (hm.2 m vs hl hv) ?_
 rintro e w' ⟨v,ρ',rfl,mb,im,m',hx⟩
 obtain⟨mo,m2⟩:=m'.kill (id:=id) (by rw[hs];simp)
 exact⟨v,_,rfl,mb.trans mo.toB,im.trans mo.ids,m2,hx.mono mo⟩
theorem NF {X:Nat→Prop} {w0 w:World} {M:Nat→Prop} {h:List aW} {ρ:Rho} (m:Mem X w0 M h ρ w) {id len:Nat} {c:Con} {v:Value} (hx:CR X w ρ (.sl id 0 len 1 none) v) (hs:Heap.get h id=.live c) (hf:c.free=true) (hz:len=c.size)
  (mo:bN w ρ w (upd ρ id .dead)):CR X w (upd ρ id .dead) (.view none c len 1 none) v:=by
 have nl: ∀b,ρ id=.row b→ ¬(bH (upd ρ id .dead) b∨X b):=by
  rintro b hb (⟨q,hq⟩|hxb)
  ·by_cases eq:q=id
   ·subst eq;rw[b8]at hq;cases hq
   ·rw[bG _ _ eq]at hq;exact eq (m.inj q id b hq hb)
  ·exact m.notX hb hxb
 rcases cW m hs hx with⟨b,k,ty,n,hb,rfl,⟨ds,ty',hrow,hsz,hcs⟩,hsh,hn,hlc,hcap⟩|⟨ad,rfl,rfl,hcap⟩
 ·rw[Nat.zero_mul]
  refine .view none c len 1 none b 0 k (fun q=>ds.getD q undef) (fun _ h=>nl b hb h) (fun q hq=> ?_) (fun q hq=> ?_) (by omega) hlc (fun _ h=>by cases h) (fun _ h=>by cases h)
  ·have hq':q<ds.size:=by omega
   simp[World.cell?,hrow,Array.getD,hq']
  ·exact CR0.mono (mo.toB.or X) ((hcs q hq).free (eM hf q)) (cB.noIds _)
 ·exact .viewNone none c 1 none ad 0 hz.symm (fun _ h=>by cases h) (fun _ h=>by cases h) (fun _=>rfl)
theorem Mem.frozH {X:Nat→Prop} {w0 w:World} {M:Nat→Prop} {h:List aW} {ρ:Rho} (m:Mem X w0 M h ρ w) {j i id len:Nat} {cs:List aF} {c:Con} (hj:Heap.get h j=.live (.cells cs)) (hi:i<cs.length) (hc:cs.getD i .any=.sl id 0 len 1 none) (hs:Heap.get h id=.live c)
  (hf:c.free=true) (hz:len=c.size) (hne:j≠id):
  bN w ρ w (upd ρ id .dead)∧Mem X w0 M ((h.set id .dead).set j (.live (.cells (cs.set i (.view none c len 1 none))))) (upd ρ id .dead) w:=by
 obtain⟨mo,m2⟩:=m.kill (id:=id) (by rw[hs];simp)
 refine⟨mo,⟨fun k=> ?_,m2.inj,m2.own,m2.os,m2.tape,m2.output,m2.size,m2.keep,m2.foreign⟩⟩
 have hjl:j<h.length:=Heap.lt_of_live (by rw[hj];simp)
 by_cases ek:k=j
 ·subst ek
  have e1:Heap.get ((h.set id .dead).set k (.live (.cells (cs.set i (.view none c len 1 none))))) k=.live (.cells (cs.set i (.view none c len 1 none))):=by
   unfold Heap.get
   rw[List.getD_eq_getElem?_getD,List.getElem?_set_self (by rw[List.length_set];exact hjl)];rfl
  have e2:Heap.get (h.set id .dead) k=.live (.cells cs):=by
   rw[←hj];unfold Heap.get
   rw[List.getD_eq_getElem?_getD,List.getElem?_set_ne (Ne.symm hne),←List.getD_eq_getElem?_getD]
  have g1:=m.slot k
  have g2:=m2.slot k
  rw[e1];rw[hj]at g1;rw[e2]at g2
  rw[bG _ _ hne]at g2⊢
  cases hw:ρ k with
  |unborn=>rw[hw]at g1;exact g1.elim
  |dead=>rw[hw]at g1;exact g1.elim
  |nil=>rw[hw]at g1;simp only[dT,Con.size]at g1;omega
  |row b=>
   rw[hw]at g1 g2
   obtain⟨ds,ty,hrow,hsz,hcs⟩:=g1
   obtain⟨ds',ty',hrow',hsz',hcs'⟩:=g2
   rw[hrow]at hrow'
   injection hrow' with hrow';injection hrow' with a1 a2;subst a1
   refine⟨ds,ty,hrow,by simpa [Con.size]using hsz,fun q hq=> ?_⟩
   simp only[Con.size,List.length_set]at hq
   by_cases eq:i=q
   ·subst eq
    have e3:(Con.cells (cs.set i (.view none c len 1 none))).cell i=.view none c len 1 none:=by
     simp only[Con.cell]
     rw[List.getD_eq_getElem?_getD,List.getElem?_set_self hi];rfl
    rw[e3]
    have:=hcs i hi
    simp only[Con.cell]at this
    rw[hc]at this
    exact NF m this hs hf hz mo
   ·have e3:(Con.cells (cs.set i (.view none c len 1 none))).cell q=(Con.cells cs).cell q:=by
     simp only[Con.cell]
     rw[List.getD_eq_getElem?_getD,List.getElem?_set_ne eq,←List.getD_eq_getElem?_getD]
    rw[e3]
    exact hcs' q hq
 ·have e1:Heap.get ((h.set id .dead).set j (.live (.cells (cs.set i (.view none c len 1 none))))) k=Heap.get (h.set id .dead) k:=by
   unfold Heap.get
   rw[List.getD_eq_getElem?_getD,List.getElem?_set_ne (Ne.symm ek),←List.getD_eq_getElem?_getD]
  rw[e1]
  exact m2.slot k
theorem bA.frozH {P:Program} {f:FuncId} {args:List AV} {h h':List aW} {res:AV} (hm:bA P f args h res h') {j i id len:Nat} {cs:List aF} {c:Con} (hj:Heap.get h' j=.live (.cells cs)) (hi:i<cs.length) (hc:cs.getD i .any=.sl id 0 len 1 none) (hs:Heap.get h' id=.live c)
  (hf:c.free=true) (hz:len=c.size) (hne:j≠id):bA P f args h res ((h'.set id .dead).set j (.live (.cells (cs.set i (.view none c len 1 none))))):=by
 refine⟨hm.1,fun {X w0 ρ0} m vs hl' hv=> ?_⟩
 refine Calls.mono (hm.2 m vs hl' hv) ?_
 rintro e w' ⟨v,ρ',rfl,mb,im,m',hx⟩
 obtain⟨mo,m2⟩:=m'.frozH hj hi hc hs hf hz hne
 exact⟨v,_,rfl,mb.trans mo.toB,im.trans mo.ids,m2,hx.mono mo⟩
end
section
noncomputable def T93:List bD:=[⟨144,[],nm P3⟩]++T92
theorem e93:a6 Tryz.prog T93:=by
 refine a6.append ?_ e92
 intro e he
 simp only[List.mem_cons,List.not_mem_nil,or_false]at he
 subst he;exact mLO.ok
theorem t93:bJ Tryz.prog (a9 T93):=aM e93
noncomputable abbrev fP2:=Tryz.f164
theorem a41 (k l:Int) (n:Nat) (f:List Int) (b0:Int) (F0 B0:List Int):aD tt (a9 T93) ([]) 100 fP2 [.c (.sl 0 0 n 1 none),.c (.ptr 1 0 0 0),.c (.ptr 2 0 0 0),.c (.ptr 3 0 0 0)] [.live (.ints .i64 f),.live (.ints .i64 [k]),.live (.ints .i64 [l]),.live (.cells [.int .i64 b0,.view none (.ints .i64 F0) F0.length 1 none,.view none (.ints .i64 B0) B0.length 1 none])] [(0,true)]=
  some ⟨.c (.bool (plB k l f)),[.live (.ints .i64 f),.live (.ints .i64 [k]),.live (.ints .i64 [l]),.live (.cells [.int .i64 l,.sl 4 0 f.length 1 none,.sl 5 0 (plA k l f).length 1 none]),.live (.ints .i64 f),.live (.ints .i64 (plA k l f))],(decide (n=f.length)&&(bet k 1 2&&(bet l 0 7&&(aK f&&(decide (f.length≤8)&&((plB k l f)&&true)))))),[]⟩:=by kernel_rfl
theorem a42 (k l:Int) (n:Nat) (f:List Int) (b0:Int) (F0 B0:List Int):aD tt (a9 T93) ([]) 100 fP2 [.c (.sl 0 0 n 1 none),.c (.ptr 1 0 0 0),.c (.ptr 2 0 0 0),.c (.ptr 3 0 0 0)] [.live (.ints .i64 f),.live (.ints .i64 [k]),.live (.ints .i64 [l]),.live (.cells [.int .i64 b0,.view none (.ints .i64 F0) F0.length 1 none,.view none (.ints .i64 B0) B0.length 1 none])] [(0,false)]=
  some ⟨.c (.bool (plB k l f)),[.live (.ints .i64 f),.live (.ints .i64 [k]),.live (.ints .i64 [l]),.live (.cells [.int .i64 b0,.view none (.ints .i64 F0) F0.length 1 none,.view none (.ints .i64 B0) B0.length 1 none])],(decide (n=f.length)&&(bet k 1 2&&(bet l 0 7&&(aK f&&(decide (f.length≤8)&&((!plB k l f)&&true)))))),[]⟩:=by kernel_rfl
def uD (b:Bool) (x y:List Int):List Int:=bif b then x else y
def P8:aN:=fun args h=>
 match args,h with
 |[.c (.sl 0 0 n 1 none),.c (.ptr 1 0 0 0),.c (.ptr 2 0 0 0),.c (.ptr 3 0 0 0)],[.live (.ints .i64 f),.live (.ints .i64 [k]),.live (.ints .i64 [l]),.live (.cells [.int .i64 b0,.view none (.ints .i64 F0) n1 1 none,.view none (.ints .i64 B0) n2 1 none])]=>
  some (.c (.bool (plB k l f)),[.live (.ints .i64 f),.live (.ints .i64 [k]),.live (.ints .i64 [l]),.live (.cells [.int .i64 (bif plB k l f then l else b0),.view none (.ints .i64 (uD (plB k l f) f F0)) (uD (plB k l f) f F0).length 1 none,.view none (.ints .i64 (uD (plB k l f) (plA k l f) B0)) (uD (plB k l f) (plA k l f) B0).length 1 none]),.dead,.dead],[bet k 1 2,bet l 0 7,aK f,decide (f.length≤8),decide (n=f.length),decide (n1=F0.length),decide (n2=B0.length)])
 |_,_=>none
theorem mP2:aP Tryz.prog 164 P8:=by
 intro args h res h' o he ho
 unfold P8 at he
 split at he
 case h_2=>cases he
 rename_i n f k l b0 F0 n1 B0 n2
 simp only[Option.some.injEq,Prod.mk.injEq]at he
 obtain⟨rfl,rfl,rfl⟩:=he
 simp only[List.mem_cons,List.not_mem_nil,or_false,forall_eq_or_imp,forall_eq,decide_eq_true_eq]at ho
 obtain⟨o1,o2,o3,o4,o5,o6,o7⟩:=ho
 subst o5 o6 o7
 cases hz:plB k l f with
 |true=>
  have e:=a41 k l f.length f b0 F0 B0
  rw[hz]at e
  exact bA.frozH (bA.frozH (mo t93 e (by simp[o1,o2,o3,o4]) (hlc:=(fun cc hcc=>aI.nil))) (j:=3) (i:=1) (id:=4) rfl (Nat.lt_of_sub_eq_succ rfl) rfl rfl rfl rfl (by decide)) (j:=3) (i:=2) (id:=5) rfl (Nat.lt_of_sub_eq_succ rfl) rfl rfl rfl rfl (by decide)
 |false=>
  have e:=a42 k l f.length f b0 F0 B0
  rw[hz]at e
  exact(mo t93 e (by simp[o1,o2,o3,o4]) (hlc:=(fun cc hcc=>aI.nil))).addDead.addDead
end
end Go.Proofs.YthapjdpkelihiaaGreat.Am
