/- DERIVED. Part 19 of the proof: C96, P20, C97, Am41, C98, C99, C100, C101. No statement of the program is proved here. -/
import Derived.Test.YthapjdpkelihiaaGreatX18
set_option linter.unusedSimpArgs false
set_option linter.unusedVariables false
set_option linter.unusedSectionVars false
namespace Go.Proofs.YthapjdpkelihiaaGreat.Am
section
def sr (p:List Int→Bool) (q:Nat→Bool):Nat→Nat→List Int→Option (List Int)
 |_,0,f=>bif p f then some f else none
 |0,_+1,_=>none
 |j+1,m+1,f=>bif q (7-j)then(match sr p q j m (f++[((7-j:Nat):Int)])with
  |some x=>some x
  |none=>sr p q j (m+1) f)else sr p q j (m+1) f
def shS (k l:Int) (c:List Bool) (at_ m:Nat) (f:List Int):Option (List Int):=sr (slB k l) (fun i=>c.getD i false&& !((i:Int)==l)) (8-at_) m f
def isO (r:Option (List Int)):Bool:=r.isSome
def lsO (r:Option (List Int)):List Int:=r.getD []
def byO (k l:Int) (r:Option (List Int)):List Int:=kC r.isSome (slA k l (lsO r))
def fR (t:List Int→Bool):Nat→Nat→List Int→Bool
 |_,0,f=>t f
 |0,_+1,_=>true
 |j+1,m+1,f=>fR t j m (f++[((7-j:Nat):Int)])&&fR t j (m+1) f
def lsT (k:Int) (f:List Int):Bool:=aM f&&(decide (f.length≤8)&&rA (rfL k f))
noncomputable abbrev fLS:=Tryz.f181
def GJ (x:Nat):aQ:=fun args h=>
 match args,h with
 |[.c (.int .i64 k),.c (.int .i64 l),.c (.view _ (.bools c) n 1 _),.c (.view _ (.ints .i64 f) n2 1 _),.c (.int .i64 at_),.c (.int .i64 m)],[]=>
  some (.tup [.agg [.int .i64 (bif isO (shS k l c at_.toNat m.toNat f)then l else 0),.sl 0 0 (lsO (shS k l c at_.toNat m.toNat f)).length 1 none,.sl 1 0 (byO k l (shS k l c at_.toNat m.toNat f)).length 1 none],.c (.bool (isO (shS k l c at_.toNat m.toNat f)))],[.live (.ints .i64 (lsO (shS k l c at_.toNat m.toNat f))),.live (.ints .i64 (byO k l (shS k l c at_.toNat m.toNat f)))],[decide (m<x),bet k 1 2,bet l 0 7,decide (c.length=8),bet at_ 0 8,decide (f.length+m.toNat≤8),bet m 0 4,fR (lsT k) (8-at_.toNat) m.toNat f])
 |_,_=>none
noncomputable def T91 (x:Nat):List bF:=⟨181,[],nm (GJ x)⟩::T90
noncomputable def ILS (k l:Int) (c:List Bool) (f:List Int) (m i:Int):St:=bA fLS.ntmps [(0,.c (.int .i64 k)),(1,.c (.int .i64 l)),(2,.c (.view none (.bools c) c.length 1 none)),(3,.c (.view none (.ints .i64 f) f.length 1 none)),(5,.c (.int .i64 m)),(12,.c (.ptr 0 0 0 0)),(14,.c (.int .i64 i))] [.live (.cells [.int .i64 0,.nils,.nils])]
noncomputable def XLS:St:=bA fLS.ntmps [(12,.c (.ptr 0 0 0 0))] [.live (.cells [.int .i64 0,.nils,.nils])]
noncomputable def YLS (l:Int) (n1 n2:Nat) (f b:List Int):St:=bA fLS.ntmps [(12,.c (.ptr 0 0 0 0)),(13,.c (.bool true))] [.live (.cells [.int .i64 l,.sl 1 0 n1 1 none,.sl 2 0 n2 1 none]),.live (.ints .i64 f),.live (.ints .i64 b)]
theorem a0P (x:Nat) (k l:Int) (c:List Bool) (f:List Int) (m i:Int):aH 0 (aA fLS 0) (aD fLS 0) (aK tt (aB (T91 x)) ([]) 0 100 (a6 0 (a7 fLS)) (ILS k l c f m i) [(0,true),(0,true)])=
  some (.normal,(decide (i<8)&&(decide (0≤i)&&(decide (i<(↑c.length:Int))&&(decide (i.toNat<c.length)&&((!c.getD i.toNat false)&&((!c.getD i.toNat false)&&((!c.getD i.toNat false)&&((!c.getD i.toNat false)&&true)))))))),[],ILS k l c f m (IntKind.i64.wrap (i+1))):=by kernel_rfl
theorem a0Q (x:Nat) (k l:Int) (c:List Bool) (f:List Int) (m i:Int):aH 0 (aA fLS 0) (aD fLS 0) (aK tt (aB (T91 x)) ([]) 0 100 (a6 0 (a7 fLS)) (ILS k l c f m i) [(0,true),(0,false),(0,true)])=
  some (.normal,(decide (i<8)&&(decide (0≤i)&&(decide (i<(↑c.length:Int))&&(decide (i.toNat<c.length)&&((!!c.getD i.toNat false)&&((!!c.getD i.toNat false)&&((!!c.getD i.toNat false)&&((bif !c.getD i.toNat false then true else i==l)&&true)))))))),[],ILS k l c f m (IntKind.i64.wrap (i+1))):=by kernel_rfl
theorem a0R (x:Nat) (k l:Int) (c:List Bool) (f:List Int) (m i:Int):aH 0 (aA fLS 0) (aD fLS 0) (aK tt (aB (T91 x)) ([]) 0 100 (a6 0 (a7 fLS)) (ILS k l c f m i) [(0,true),(0,false),(0,false),(0,true)])=
  some (.ret,(decide (i<8)&&(decide (0≤i)&&(decide (i<(↑c.length:Int))&&(decide (i.toNat<c.length)&&((!!c.getD i.toNat false)&&((!!c.getD i.toNat false)&&((!!c.getD i.toNat false)&&((!bif !c.getD i.toNat false then true else i==l)&&(decide (0+f.length≤274877906944)&&(decide (0+f.length=([]++f).length)&&(decide (0+f.length+1≤274877906944)&&(decide (0+f.length+1=([]++f++[i]).length)&&(decide (IntKind.i64.wrap (m-1)<(↑x:Int))&&(bet k 1 2&&(bet l 0 7&&(decide (c.length=8)&&(bet (IntKind.i64.wrap (i+1)) 0 8&&(decide (([]++f++[i]).length+(IntKind.i64.wrap (m-1)).toNat≤8)&&(bet (IntKind.i64.wrap (m-1)) 0 4&&(fR (lsT k) (8-(IntKind.i64.wrap (i+1)).toNat) (IntKind.i64.wrap (m-1)).toNat ([]++f++[i])&&((isO (shS k l c (IntKind.i64.wrap (i+1)).toNat (IntKind.i64.wrap (m-1)).toNat ([]++f++[i])))&&true))))))))))))))))))))),[],YLS (bif isO (shS k l c (IntKind.i64.wrap (i+1)).toNat (IntKind.i64.wrap (m-1)).toNat ([]++f++[i]))then l else 0) ((lsO (shS k l c (IntKind.i64.wrap (i+1)).toNat (IntKind.i64.wrap (m-1)).toNat ([]++f++[i]))).length) ((byO k l (shS k l c (IntKind.i64.wrap (i+1)).toNat (IntKind.i64.wrap (m-1)).toNat ([]++f++[i]))).length) (lsO (shS k l c (IntKind.i64.wrap (i+1)).toNat (IntKind.i64.wrap (m-1)).toNat ([]++f++[i]))) (byO k l (shS k l c (IntKind.i64.wrap (i+1)).toNat (IntKind.i64.wrap (m-1)).toNat ([]++f++[i])))):=by kernel_rfl
theorem a0S (x:Nat) (k l:Int) (c:List Bool) (f:List Int) (m i:Int):aH 0 (aA fLS 0) (aD fLS 0) (aK tt (aB (T91 x)) ([]) 0 100 (a6 0 (a7 fLS)) (ILS k l c f m i) [(0,true),(0,false),(0,false),(0,false)])=
  some (.normal,(decide (i<8)&&(decide (0≤i)&&(decide (i<(↑c.length:Int))&&(decide (i.toNat<c.length)&&((!!c.getD i.toNat false)&&((!!c.getD i.toNat false)&&((!!c.getD i.toNat false)&&((!bif !c.getD i.toNat false then true else i==l)&&(decide (0+f.length≤274877906944)&&(decide (0+f.length=([]++f).length)&&(decide (0+f.length+1≤274877906944)&&(decide (0+f.length+1=([]++f++[i]).length)&&(decide (IntKind.i64.wrap (m-1)<(↑x:Int))&&(bet k 1 2&&(bet l 0 7&&(decide (c.length=8)&&(bet (IntKind.i64.wrap (i+1)) 0 8&&(decide (([]++f++[i]).length+(IntKind.i64.wrap (m-1)).toNat≤8)&&(bet (IntKind.i64.wrap (m-1)) 0 4&&(fR (lsT k) (8-(IntKind.i64.wrap (i+1)).toNat) (IntKind.i64.wrap (m-1)).toNat ([]++f++[i])&&((!isO (shS k l c (IntKind.i64.wrap (i+1)).toNat (IntKind.i64.wrap (m-1)).toNat ([]++f++[i])))&&true))))))))))))))))))))),[],ILS k l c f m (IntKind.i64.wrap (i+1))):=by kernel_rfl
theorem a0T (x:Nat) (k l:Int) (c:List Bool) (f:List Int) (m i:Int):aH 0 (aA fLS 0) (aD fLS 0) (aK tt (aB (T91 x)) ([]) 0 100 (a6 0 (a7 fLS)) (ILS k l c f m i) [(0,false)])=
  some (.exit 0,((!decide (i<8))&&true),[],XLS):=by kernel_rfl
theorem a4N (x:Nat) (k l:Int) (c:List Bool) (f:List Int) (a m:Int) (lcv:List (Nat×LC)):aG tt (aB (T91 x)) (lcv) 100 fLS [.c (.int .i64 k),.c (.int .i64 l),.c (.view none (.bools c) c.length 1 none),.c (.view none (.ints .i64 f) f.length 1 none),.c (.int .i64 a),.c (.int .i64 m)] [] [(0,true)]=
  some ⟨.tup [.agg [.int .i64 (bif slB k l f then l else 0),.sl 0 0 (kC (slB k l f) f).length 1 none,.sl 1 0 (kC (slB k l f) (slA k l f)).length 1 none],.c (.bool (slB k l f))],[.live (.ints .i64 (kC (slB k l f) f)),.live (.ints .i64 (kC (slB k l f) (slA k l f)))],((m==0)&&(bet k 1 2&&(bet l 0 7&&(aM f&&(decide (f.length≤8)&&((rA (rfL k f))&&true)))))),[]⟩:=by kernel_rfl
theorem a4O (x:Nat) (k l:Int) (c:List Bool) (f:List Int) (a m:Int):aG tt (aB (T91 x)) ([(0,⟨aA fLS 0,ILS k l c f m a,.normal,XLS⟩)]) 100 fLS [.c (.int .i64 k),.c (.int .i64 l),.c (.view none (.bools c) c.length 1 none),.c (.view none (.ints .i64 f) f.length 1 none),.c (.int .i64 a),.c (.int .i64 m)] [] [(0,false)]=
  some ⟨.tup [.agg [.int .i64 0,.nils,.nils],.c (.bool false)],[],((!m==0)&&true),[ILS k l c f m a=ILS k l c f m a]⟩:=by kernel_rfl
theorem WC (x:Nat) (k l:Int) (c:List Bool) (f:List Int) (a m:Int) (l':Int) (n1 n2:Nat) (f' b:List Int):aG tt (aB (T91 x)) ([(0,⟨aA fLS 0,ILS k l c f m a,.ret,YLS l' n1 n2 f' b⟩)]) 100 fLS [.c (.int .i64 k),.c (.int .i64 l),.c (.view none (.bools c) c.length 1 none),.c (.view none (.ints .i64 f) f.length 1 none),.c (.int .i64 a),.c (.int .i64 m)] [] [(0,false)]=
  some ⟨.tup [.agg [.int .i64 l',.sl 0 0 n1 1 none,.sl 1 0 n2 1 none],.c (.bool true)],[.live (.ints .i64 f'),.live (.ints .i64 b)],((!m==0)&&true),[ILS k l c f m a=ILS k l c f m a]⟩:=by kernel_rfl
theorem a12 (p:List Int→Bool) (q:Nat→Bool) (j:Nat) (f:List Int):sr p q j 0 f=bif p f then some f else none:=by cases j<;>rfl
theorem HK (t:List Int→Bool) (j:Nat) (f:List Int):fR t j 0 f=t f:=by cases j<;>rfl
def srQ (l:Int) (c:List Bool) (i:Nat):Bool:=c.getD i false&& !((i:Int)==l)
theorem tZ (k l:Int) (c:List Bool) (a m:Nat) (f:List Int):shS k l c a m f=sr (slB k l) (srQ l c) (8-a) m f:=rfl
noncomputable def YO (k l:Int) (r:Option (List Int)):St:=YLS (bif isO r then l else 0) (lsO r).length (byO k l r).length (lsO r) (byO k l r)
theorem lLS (x:Nat) (ht:bN Tryz.prog (aB (T91 x))) (k l:Int) (c:List Bool) (f:List Int) (M:Nat) (hx:M<x) (hk:bet k 1 2=true) (hl:bet l 0 7=true) (hc:c.length=8) (hf:f.length+(M+1)≤8) (hM:M≤3):
  ∀j,j≤8∧fR (lsT k) j (M+1) f=true→aW Tryz.prog 0 (.block 0 (.loop (a6 0 (a7 fLS)))) (ILS k l c f ((M+1:Nat):Int) ((8-j:Nat):Int)) fun e t=>
   e=(bif isO (sr (slB k l) (srQ l c) j (M+1) f)then .ret else .normal)∧t=(bif isO (sr (slB k l) (srQ l c) j (M+1) f)then YO k l (sr (slB k l) (srQ l c) j (M+1) f)else XLS):=by
 refine aW.roundsR hT ht bM (m:=0) (id:=0) (body:=a6 0 (a7 fLS)) (α:=Nat) (fun j=>j≤8∧fR (lsT k) j (M+1) f=true) (fun j=>ILS k l c f ((M+1:Nat):Int) ((8-j:Nat):Int)) (fun j=>j) (aA fLS 0) (aD fLS 0)
  (fun j=>bif isO (sr (slB k l) (srQ l c) j (M+1) f)then .ret else .normal) (fun j=>bif isO (sr (slB k l) (srQ l c) j (M+1) f)then YO k l (sr (slB k l) (srQ l c) j (M+1) f)else XLS) (fun _=>[]) (fun _ _=>aF.nil) (fun j hj=> ?_)
 obtain⟨h1,h2⟩:=hj
 cases j with
 |zero=>exact⟨_,_,_,_,_,_,a0T x k l c f ((M+1:Nat):Int) ((8:Nat):Int),by simp,by simp,.inr (.inl ⟨rfl,rfl,rfl⟩)⟩
 |succ j=>
  have hi:8-(j+1)=7-j:=by omega
  have h3:fR (lsT k) j M (f++[((7-j:Nat):Int)])=true∧fR (lsT k) j (M+1) f=true:=by
   have:(fR (lsT k) j M (f++[((7-j:Nat):Int)])&&fR (lsT k) j (M+1) f)=true:=h2
   rwa[Bool.and_eq_true]at this
  rw[hi]
  have w1:IntKind.i64.wrap (((7-j:Nat):Int)+1)=((8-j:Nat):Int):=by rw[aE (by omega) (by omega)];omega
  have w2:IntKind.i64.wrap (((M+1:Nat):Int)-1)=(M:Int):=by rw[aE (by omega) (by omega)];omega
  have hj8:8-(8-j)=j:=by omega
  have sk:srQ l c (7-j)=false→sr (slB k l) (srQ l c) (j+1) (M+1) f=sr (slB k l) (srQ l c) j (M+1) f:=fun h=>by
   show(bif srQ l c (7-j)then _ else _)=_
   rw[h,cond_false]
  cases hq:c.getD (7-j) false with
  |false=>
   have e:=a0P x k l c f ((M+1:Nat):Int) ((7-j:Nat):Int)
   rw[w1,Int.toNat_natCast]at e
   rw[sk (by unfold srQ;rw[hq,Bool.false_and])]
   refine⟨_,_,_,_,_,_,e, ?_,by simp,.inl ⟨rfl,j,⟨by omega,h3.2⟩,Nat.lt_succ_self _,rfl,rfl,rfl⟩⟩
   simp only[hq,bS]
   omega
  |true=>
   cases hz:((7-j:Nat):Int)==l with
   |true=>
    have e:=a0Q x k l c f ((M+1:Nat):Int) ((7-j:Nat):Int)
    rw[w1,Int.toNat_natCast]at e
    rw[sk (by unfold srQ;rw[hz,Bool.not_true,Bool.and_false])]
    refine⟨_,_,_,_,_,_,e, ?_,by simp,.inl ⟨rfl,j,⟨by omega,h3.2⟩,Nat.lt_succ_self _,rfl,rfl,rfl⟩⟩
    simp only[hq,hz,bS]
    omega
   |false=>
    have go:sr (slB k l) (srQ l c) (j+1) (M+1) f=(match sr (slB k l) (srQ l c) j M (f++[((7-j:Nat):Int)])with|some y=>some y|none=>sr (slB k l) (srQ l c) j (M+1) f):=by
     show(bif srQ l c (7-j)then _ else _)=_
     rw[show srQ l c (7-j)=true from by unfold srQ;rw[hq,hz];rfl,cond_true]
    have b1:bet ((8-j:Nat):Int) 0 8=true:=b8.2 (by omega)
    have b2:bet (M:Int) 0 4=true:=b8.2 (by omega)
    rw[go]
    cases hr:sr (slB k l) (srQ l c) j M (f++[((7-j:Nat):Int)])with
    |some y=>
     have e:=a0R x k l c f ((M+1:Nat):Int) ((7-j:Nat):Int)
     rw[w1,w2]at e
     simp only[Int.toNat_natCast,List.nil_append,tZ,hj8,hr]at e
     refine⟨_,_,_,_,_,_,e, ?_,by simp,.inr (.inr ⟨by simp,by simp,rfl,rfl⟩)⟩
     simp only[hq,hz,hk,hl,hc,b1,b2,h3.1,isO,Option.isSome_some,List.length_append,List.length_cons,List.length_nil,decide_true,bS]
     omega
    |none=>
     have e:=a0S x k l c f ((M+1:Nat):Int) ((7-j:Nat):Int)
     rw[w1,w2]at e
     simp only[Int.toNat_natCast,List.nil_append,tZ,hj8,hr]at e
     refine⟨_,_,_,_,_,_,e, ?_,by simp,.inl ⟨rfl,j,⟨by omega,h3.2⟩,Nat.lt_succ_self _,rfl,rfl,rfl⟩⟩
     simp only[hq,hz,hk,hl,hc,b1,b2,h3.1,isO,Option.isSome_none,List.length_append,List.length_cons,List.length_nil,decide_true,bS]
     omega
theorem mLS: ∀x,aV Tryz.prog 181 (GJ x):=by
 intro x
 induction x with
 |zero=>
  intro args h res h' o hnorm he ho
  unfold GJ at he
  split at he
  case h_2=>cases he
  rename_i k l nl c n cap nl2 f n2 cap2 a m
  simp only[Option.some.injEq,Prod.mk.injEq]at he
  obtain⟨rfl,rfl,rfl⟩:=he
  simp only[List.mem_cons,List.not_mem_nil,or_false,forall_eq_or_imp,forall_eq,decide_eq_true_eq]at ho
  obtain⟨o1,o2,o3,o4,o5,o6,o7,o8⟩:=ho
  have:=b8.1 o7
  omega
 |succ x ih=>
  have ht:bN Tryz.prog (aB (T91 x)):=aP fun e he=>by
   rcases List.mem_cons.1 he with rfl|he
   ·exact ih.ok
   ·exact e90 e he
  intro args h res h' o hnorm he ho
  unfold GJ at he
  split at he
  case h_2=>cases he
  rename_i k l nl c n cap nl2 f n2 cap2 a m
  simp only[Option.some.injEq,Prod.mk.injEq]at he
  obtain⟨rfl,rfl,rfl⟩:=he
  simp only[List.mem_cons,List.not_mem_nil,or_false,forall_eq_or_imp,forall_eq,decide_eq_true_eq]at ho
  obtain⟨o1,o2,o3,o4,o5,o6,o7,o8⟩:=ho
  simp only[bG,AV.norm,bI,aJ.norm,Con.size,List.cons.injEq,AV.c.injEq,AV.agg.injEq,aJ.view.injEq,aN,true_and,and_true]at hnorm
  obtain⟨⟨rfl,rfl,rfl⟩,rfl,rfl,rfl⟩:=hnorm
  have hm:=b8.1 o7
  have ha:=b8.1 o5
  obtain⟨a,rfl⟩: ∃a':Nat,a=(a':Int):=⟨a.toNat,by omega⟩
  obtain⟨m,rfl⟩: ∃m':Nat,m=(m':Int):=⟨m.toNat,by omega⟩
  simp only[Int.toNat_natCast]at o6 o8⊢
  cases m with
  |zero=>
   rw[HK]at o8
   simp only[lsT,Bool.and_eq_true,decide_eq_true_eq]at o8
   rw[show shS k l c a 0 f=bif slB k l f then some f else none from a12 _ _ _ _]
   have e:=a4N x k l c f a ((0:Nat):Int)
   cases hs:slB k l f with
   |true=>
    rw[hs]at e
    exact a5 ht (by kernel_rfl) (by kernel_rfl) (e []) (by simp[o2,o3,o8.1,o8.2.1,o8.2.2]) (by simp) (fun cc hcc=>aF.nil)
   |false=>
    rw[hs]at e
    simp only[kC,cond_false]at e
    show bE Tryz.prog 181 _ _ (.tup [.agg [.int .i64 0,.sl 0 0 ([]:List Int).length 1 none,.sl 1 0 ([]:List Int).length 1 none],.c (.bool false)]) [.live (.ints .i64 []),.live (.ints .i64 [])]
    exact a5 ht (by kernel_rfl) (by kernel_rfl) (e []) (by simp[o2,o3,o8.1,o8.2.1,o8.2.2]) (by simp) (fun cc hcc=>aF.nil)
  |succ M=>
   have g:=lLS x ht k l c f M (by omega) o2 o3 o4 o6 (by omega) (8-a) ⟨by omega,o8⟩
   rw[show 8-(8-a)=a from by omega,←tZ]at g
   have h0:(((M+1:Nat):Int)==0)=false:=by rw[beq_eq_false_iff_ne];omega
   cases hr:shS k l c a (M+1) f with
   |some y=>
    rw[hr]at g
    exact a5 ht (by kernel_rfl) (by kernel_rfl) (WC x k l c f a ((M+1:Nat):Int) l (lsO (some y)).length (byO k l (some y)).length (lsO (some y)) (byO k l (some y))) (by simp only[h0,bS]) (by simp) (fun cc hcc=>aF.cons (c:=cc) (by cases hcc;kernel_rfl) (by cases hcc;exact g) aF.nil)
   |none=>
    rw[hr]at g
    exact((a5 ht (by kernel_rfl) (by kernel_rfl) (a4O x k l c f a ((M+1:Nat):Int)) (by simp only[h0,bS]) (by simp) (fun cc hcc=>aF.cons (c:=cc) (by cases hcc;kernel_rfl) (by cases hcc;exact g) aF.nil)).nil1 (es:=1) (c0:=.ints .i64 []) rfl rfl).nil1 (es:=1) (c0:=.ints .i64 []) rfl rfl
end
section
theorem RD:cB (fun m=>fR (lsT 1) 8 (m+1) []) 4=true:=by kernel_rfl
theorem RE:cB (fun m=>fR (lsT 2) 8 (m+1) []) 4=true:=by kernel_rfl
theorem XQ {k:Int} (hk:bet k 1 2=true) {m:Nat} (hm:m<4):fR (lsT k) 8 (m+1) []=true:=by
 have:=b8.1 hk
 rcases(by omega:k=1∨k=2)with rfl|rfl
 ·exact aY RD m hm
 ·exact aY RE m hm
end
section
noncomputable def T92:List bF:=[⟨181,[],nm (GJ 5)⟩]++T90
theorem e92:a8 Tryz.prog T92:=by
 refine a8.append ?_ e90
 intro e he
 simp only[List.mem_cons,List.not_mem_nil,or_false]at he
 subst he;exact(mLS 5).ok
theorem t92:bN Tryz.prog (aB T92):=aP e92
noncomputable abbrev fLO:=Tryz.f144
noncomputable def ILO (k l:Int) (c:List Bool) (i:Int):St:=bA fLO.ntmps [(0,.c (.int .i64 k)),(1,.c (.int .i64 l)),(2,.c (.view none (.bools c) c.length 1 none)),(6,.c (.ptr 0 0 0 0)),(8,.c (.int .i64 i))] [.live (.cells [.int .i64 0,.nils,.nils])]
noncomputable def XLO:St:=bA fLO.ntmps [(6,.c (.ptr 0 0 0 0))] [.live (.cells [.int .i64 0,.nils,.nils])]
noncomputable def YLO (l:Int) (n1 n2:Nat) (f b:List Int):St:=bA fLO.ntmps [(6,.c (.ptr 0 0 0 0)),(7,.c (.bool true))] [.live (.cells [.int .i64 l,.sl 1 0 n1 1 none,.sl 2 0 n2 1 none]),.live (.ints .i64 f),.live (.ints .i64 b)]
theorem a0K (k l:Int) (c:List Bool) (i:Int):aH 0 (aA fLO 0) (aD fLO 0) (aK tt (aB T92) ([]) 0 100 (a6 0 (a7 fLO)) (ILO k l c i) [(0,true),(0,true)])=
  some (.ret,(decide (i≤4)&&(decide (i<5)&&(bet k 1 2&&(bet l 0 7&&(decide (c.length=8)&&(decide (0+i.toNat≤8)&&(bet i 0 4&&(fR (lsT k) 8 i.toNat []&&((isO (shS k l c (Int.toNat 0) i.toNat []))&&true))))))))),[],YLO (bif isO (shS k l c (Int.toNat 0) i.toNat [])then l else 0) ((lsO (shS k l c (Int.toNat 0) i.toNat [])).length) ((byO k l (shS k l c (Int.toNat 0) i.toNat [])).length) (lsO (shS k l c (Int.toNat 0) i.toNat [])) (byO k l (shS k l c (Int.toNat 0) i.toNat []))):=by kernel_rfl
theorem a0L (k l:Int) (c:List Bool) (i:Int):aH 0 (aA fLO 0) (aD fLO 0) (aK tt (aB T92) ([]) 0 100 (a6 0 (a7 fLO)) (ILO k l c i) [(0,true),(0,false)])=
  some (.normal,(decide (i≤4)&&(decide (i<5)&&(bet k 1 2&&(bet l 0 7&&(decide (c.length=8)&&(decide (0+i.toNat≤8)&&(bet i 0 4&&(fR (lsT k) 8 i.toNat []&&((!isO (shS k l c (Int.toNat 0) i.toNat []))&&true))))))))),[],ILO k l c (IntKind.i64.wrap (i+1))):=by kernel_rfl
theorem a0M (k l:Int) (c:List Bool) (i:Int):aH 0 (aA fLO 0) (aD fLO 0) (aK tt (aB T92) ([]) 0 100 (a6 0 (a7 fLO)) (ILO k l c i) [(0,false)])=
  some (.exit 0,((!decide (i≤4))&&true),[],XLO):=by kernel_rfl
theorem a4J (k l:Int) (c:List Bool):aG tt (aB T92) ([(0,⟨aA fLO 0,ILO k l c 1,.normal,XLO⟩)]) 100 fLO [.c (.int .i64 k),.c (.int .i64 l),.c (.view none (.bools c) c.length 1 none)] [] []=
  some ⟨.tup [.agg [.int .i64 0,.nils,.nils],.c (.bool false)],[],true,[ILO k l c 1=ILO k l c 1]⟩:=by kernel_rfl
theorem WB (k l:Int) (c:List Bool) (l':Int) (n1 n2:Nat) (f' b:List Int):aG tt (aB T92) ([(0,⟨aA fLO 0,ILO k l c 1,.ret,YLO l' n1 n2 f' b⟩)]) 100 fLO [.c (.int .i64 k),.c (.int .i64 l),.c (.view none (.bools c) c.length 1 none)] [] []=
  some ⟨.tup [.agg [.int .i64 l',.sl 0 0 n1 1 none,.sl 1 0 n2 1 none],.c (.bool true)],[.live (.ints .i64 f'),.live (.ints .i64 b)],true,[ILO k l c 1=ILO k l c 1]⟩:=by kernel_rfl
def ofR (k l:Int) (c:List Bool):Nat→Option (List Int)
 |0=>none
 |j+1=>match shS k l c 0 (4-j) []with
  |some y=>some y
  |none=>ofR k l c j
noncomputable def YOO (k l:Int) (r:Option (List Int)):St:=YLO (bif isO r then l else 0) (lsO r).length (byO k l r).length (lsO r) (byO k l r)
theorem lLO (k l:Int) (c:List Bool) (hk:bet k 1 2=true) (hl:bet l 0 7=true) (hc:c.length=8):
  ∀j,j≤4→aW Tryz.prog 0 (.block 0 (.loop (a6 0 (a7 fLO)))) (ILO k l c ((5-j:Nat):Int)) fun e t=>
   e=(bif isO (ofR k l c j)then .ret else .normal)∧t=(bif isO (ofR k l c j)then YOO k l (ofR k l c j)else XLO):=by
 refine aW.roundsR hT t92 bM (m:=0) (id:=0) (body:=a6 0 (a7 fLO)) (α:=Nat) (fun j=>j≤4) (fun j=>ILO k l c ((5-j:Nat):Int)) (fun j=>j) (aA fLO 0) (aD fLO 0)
  (fun j=>bif isO (ofR k l c j)then .ret else .normal) (fun j=>bif isO (ofR k l c j)then YOO k l (ofR k l c j)else XLO) (fun _=>[]) (fun _ _=>aF.nil) (fun j hj=> ?_)
 cases j with
 |zero=>exact⟨_,_,_,_,_,_,a0M k l c ((5:Nat):Int),by simp,by simp,.inr (.inl ⟨rfl,rfl,rfl⟩)⟩
 |succ j=>
  rw[show 5-(j+1)=4-j from by omega]
  have w1:IntKind.i64.wrap (((4-j:Nat):Int)+1)=((5-j:Nat):Int):=by rw[aE (by omega) (by omega)];omega
  have b1:bet ((4-j:Nat):Int) 0 4=true:=b8.2 (by omega)
  have al:=XQ hk (m:=3-j) (by omega)
  rw[show 3-j+1=4-j from by omega]at al
  have go:ofR k l c (j+1)=(match shS k l c 0 (4-j) []with|some y=>some y|none=>ofR k l c j):=rfl
  rw[go]
  cases hr:shS k l c 0 (4-j) []with
  |some y=>
   have e:=a0K k l c ((4-j:Nat):Int)
   simp only[Int.toNat_natCast,Int.toNat_zero,hr]at e
   refine⟨_,_,_,_,_,_,e, ?_,by simp,.inr (.inr ⟨by simp,by simp,rfl,rfl⟩)⟩
   simp only[hk,hl,hc,b1,al,isO,Option.isSome_some,decide_true,bS]
   omega
  |none=>
   have e:=a0L k l c ((4-j:Nat):Int)
   rw[w1]at e
   simp only[Int.toNat_natCast,Int.toNat_zero,hr]at e
   refine⟨_,_,_,_,_,_,e, ?_,by simp,.inl ⟨rfl,j,by omega,Nat.lt_succ_self _,rfl,rfl,rfl⟩⟩
   simp only[hk,hl,hc,b1,al,isO,Option.isSome_none,decide_true,bS]
   omega
def PM:aQ:=fun args h=>
 match args,h with
 |[.c (.int .i64 k),.c (.int .i64 l),.c (.view _ (.bools c) n 1 _)],[]=>
  some (.tup [.agg [.int .i64 (bif isO (ofR k l c 4)then l else 0),.sl 0 0 (lsO (ofR k l c 4)).length 1 none,.sl 1 0 (byO k l (ofR k l c 4)).length 1 none],.c (.bool (isO (ofR k l c 4)))],[.live (.ints .i64 (lsO (ofR k l c 4))),.live (.ints .i64 (byO k l (ofR k l c 4)))],[bet k 1 2,bet l 0 7,decide (c.length=8)])
 |_,_=>none
theorem mLO:aV Tryz.prog 144 PM:=by
 intro args h res h' o hnorm he ho
 unfold PM at he
 split at he
 case h_2=>cases he
 rename_i k l nl c n cap
 simp only[Option.some.injEq,Prod.mk.injEq]at he
 obtain⟨rfl,rfl,rfl⟩:=he
 simp only[List.mem_cons,List.not_mem_nil,or_false,forall_eq_or_imp,forall_eq,decide_eq_true_eq]at ho
 obtain⟨o1,o2,o3⟩:=ho
 simp only[bG,AV.norm,bI,aJ.norm,Con.size,List.cons.injEq,AV.c.injEq,AV.agg.injEq,aJ.view.injEq,aN,true_and,and_true]at hnorm
 obtain⟨rfl,rfl,rfl⟩:=hnorm
 have g:=lLO k l c o1 o2 o3 4 (Nat.le_refl _)
 cases hr:ofR k l c 4 with
 |some y=>
  rw[hr]at g
  exact a5 t92 (by kernel_rfl) (by kernel_rfl) (WB k l c l (lsO (some y)).length (byO k l (some y)).length (lsO (some y)) (byO k l (some y))) (by simp) (by simp) (fun cc hcc=>aF.cons (c:=cc) (by cases hcc;kernel_rfl) (by cases hcc;exact g) aF.nil)
 |none=>
  rw[hr]at g
  exact((a5 t92 (by kernel_rfl) (by kernel_rfl) (a4J k l c) (by simp) (by simp) (fun cc hcc=>aF.cons (c:=cc) (by cases hcc;kernel_rfl) (by cases hcc;exact g) aF.nil)).nil1 (es:=1) (c0:=.ints .i64 []) rfl rfl).nil1 (es:=1) (c0:=.ints .i64 []) rfl rfl
end
section
theorem bE.kill {P:Program} {f:FuncId} {args:List AV} {h h':List b9} {res:AV} (hm:bE P f args h res h') {id:Nat} {c:Con} (hs:Heap.get h' id=.live c):bE P f args h res (h'.set id .dead):=by
 refine⟨hm.1,fun {X w0 ρ0} m vs hl hv=> ?_⟩
 refine Calls.mono (hm.2 m vs hl hv) ?_
 rintro e w' ⟨v,ρ',rfl,mb,im,m',hx⟩
 obtain⟨mo,m2⟩:=m'.kill (id:=id) (by rw[hs];simp)
 exact⟨v,_,rfl,mb.trans mo.toB,im.trans mo.ids,m2,hx.mono mo⟩
theorem NV {X:Nat→Prop} {w0 w:World} {M:Nat→Prop} {h:List b9} {ρ:Rho} (m:Mem X w0 M h ρ w) {id len:Nat} {c:Con} {v:Value} (hx:CR X w ρ (.sl id 0 len 1 none) v) (hs:Heap.get h id=.live c) (hf:c.free=true) (hz:len=c.size)
  (mo:bT w ρ w (upd ρ id .dead)):CR X w (upd ρ id .dead) (.view none c len 1 none) v:=by
 have nl: ∀b,ρ id=.row b→ ¬(bL (upd ρ id .dead) b∨X b):=by
  rintro b hb (⟨q,hq⟩|hxb)
  ·by_cases eq:q=id
   ·subst eq;rw[bC]at hq;cases hq
   ·rw[bK _ _ eq]at hq;exact eq (m.inj q id b hq hb)
  ·exact m.notX hb hxb
 rcases d7 m hs hx with⟨b,k,ty,n,hb,rfl,⟨ds,ty',hrow,hsz,hcs⟩,hsh,hn,hlc,hcap⟩|⟨ad,rfl,rfl,hcap⟩
 ·rw[Nat.zero_mul]
  refine .view none c len 1 none b 0 k (fun q=>ds.getD q undef) (fun _ h=>nl b hb h) (fun q hq=> ?_) (fun q hq=> ?_) (by omega) hlc (fun _ h=>by cases h) (fun _ h=>by cases h)
  ·have hq':q<ds.size:=by omega
   simp[World.cell?,hrow,Array.getD,hq']
  ·exact CR0.mono (mo.toB.or X) ((hcs q hq).free (eT hf q)) (cF.noIds _)
 ·exact .viewNone none c 1 none ad 0 hz.symm (fun _ h=>by cases h) (fun _ h=>by cases h) (fun _=>rfl)
theorem Mem.frozH {X:Nat→Prop} {w0 w:World} {M:Nat→Prop} {h:List b9} {ρ:Rho} (m:Mem X w0 M h ρ w) {j i id len:Nat} {cs:List aJ} {c:Con} (hj:Heap.get h j=.live (.cells cs)) (hi:i<cs.length) (hc:cs.getD i .any=.sl id 0 len 1 none) (hs:Heap.get h id=.live c)
  (hf:c.free=true) (hz:len=c.size) (hne:j≠id):
  bT w ρ w (upd ρ id .dead)∧Mem X w0 M ((h.set id .dead).set j (.live (.cells (cs.set i (.view none c len 1 none))))) (upd ρ id .dead) w:=by
 obtain⟨mo,m2⟩:=m.kill (id:=id) (by rw[hs];simp)
 refine⟨mo,⟨fun k=> ?_,m2.inj,m2.own,m2.os,m2.tape,m2.output,m2.size,m2.keep,m2.foreign⟩⟩
 have hjl:j<h.length:=Heap.lt_of_live (by rw[hj];simp)
 by_cases ek:k=j
 ·subst ek
  have e1:Heap.get ((h.set id .dead).set k (.live (.cells (cs.set i (.view none c len 1 none))))) k=.live (.cells (cs.set i (.view none c len 1 none))):=by
   unfold Heap.get
   rw[List.getD_eq_getElem?_getD,List.getElem?_set_self (by rw[List.length_set];exact hjl)];rfl
  have e2:Heap.get (h.set id .dead) k=.live (.cells cs):=by
   rw[←hj];unfold Heap.get
   rw[List.getD_eq_getElem?_getD,List.getElem?_set_ne (Ne.symm hne),←List.getD_eq_getElem?_getD]
  have g1:=m.slot k
  have g2:=m2.slot k
  rw[e1];rw[hj]at g1;rw[e2]at g2
  rw[bK _ _ hne]at g2⊢
  cases hw:ρ k with
  |unborn=>rw[hw]at g1;exact g1.elim
  |dead=>rw[hw]at g1;exact g1.elim
  |nil=>rw[hw]at g1;simp only[dW,Con.size]at g1;omega
  |row b=>
   rw[hw]at g1 g2
   obtain⟨ds,ty,hrow,hsz,hcs⟩:=g1
   obtain⟨ds',ty',hrow',hsz',hcs'⟩:=g2
   rw[hrow]at hrow'
   injection hrow' with hrow';injection hrow' with a1 a2;subst a1
   refine⟨ds,ty,hrow,by simpa [Con.size]using hsz,fun q hq=> ?_⟩
   simp only[Con.size,List.length_set]at hq
   by_cases eq:i=q
   ·subst eq
    have e3:(Con.cells (cs.set i (.view none c len 1 none))).cell i=.view none c len 1 none:=by
     simp only[Con.cell]
     rw[List.getD_eq_getElem?_getD,List.getElem?_set_self hi];rfl
    rw[e3]
    have:=hcs i hi
    simp only[Con.cell]at this
    rw[hc]at this
    exact NV m this hs hf hz mo
   ·have e3:(Con.cells (cs.set i (.view none c len 1 none))).cell q=(Con.cells cs).cell q:=by
     simp only[Con.cell]
     rw[List.getD_eq_getElem?_getD,List.getElem?_set_ne eq,←List.getD_eq_getElem?_getD]
    rw[e3]
    exact hcs' q hq
 ·have e1:Heap.get ((h.set id .dead).set j (.live (.cells (cs.set i (.view none c len 1 none))))) k=Heap.get (h.set id .dead) k:=by
   unfold Heap.get
   rw[List.getD_eq_getElem?_getD,List.getElem?_set_ne (Ne.symm ek),←List.getD_eq_getElem?_getD]
  rw[e1]
  exact m2.slot k
theorem bE.frozH {P:Program} {f:FuncId} {args:List AV} {h h':List b9} {res:AV} (hm:bE P f args h res h') {j i id len:Nat} {cs:List aJ} {c:Con} (hj:Heap.get h' j=.live (.cells cs)) (hi:i<cs.length) (hc:cs.getD i .any=.sl id 0 len 1 none) (hs:Heap.get h' id=.live c)
  (hf:c.free=true) (hz:len=c.size) (hne:j≠id):bE P f args h res ((h'.set id .dead).set j (.live (.cells (cs.set i (.view none c len 1 none))))):=by
 refine⟨hm.1,fun {X w0 ρ0} m vs hl' hv=> ?_⟩
 refine Calls.mono (hm.2 m vs hl' hv) ?_
 rintro e w' ⟨v,ρ',rfl,mb,im,m',hx⟩
 obtain⟨mo,m2⟩:=m'.frozH hj hi hc hs hf hz hne
 exact⟨v,_,rfl,mb.trans mo.toB,im.trans mo.ids,m2,hx.mono mo⟩
end
section
noncomputable def T93:List bF:=[⟨144,[],nm PM⟩]++T92
theorem e93:a8 Tryz.prog T93:=by
 refine a8.append ?_ e92
 intro e he
 simp only[List.mem_cons,List.not_mem_nil,or_false]at he
 subst he;exact mLO.ok
theorem t93:bN Tryz.prog (aB T93):=aP e93
noncomputable abbrev fP2:=Tryz.f164
theorem a4V (k l:Int) (n:Nat) (f:List Int) (b0:Int) (F0 B0:List Int):aG tt (aB T93) ([]) 100 fP2 [.c (.sl 0 0 n 1 none),.c (.ptr 1 0 0 0),.c (.ptr 2 0 0 0),.c (.ptr 3 0 0 0)] [.live (.ints .i64 f),.live (.ints .i64 [k]),.live (.ints .i64 [l]),.live (.cells [.int .i64 b0,.view none (.ints .i64 F0) F0.length 1 none,.view none (.ints .i64 B0) B0.length 1 none])] [(0,true)]=
  some ⟨.c (.bool (plB k l f)),[.live (.ints .i64 f),.live (.ints .i64 [k]),.live (.ints .i64 [l]),.live (.cells [.int .i64 l,.sl 4 0 f.length 1 none,.sl 5 0 (plA k l f).length 1 none]),.live (.ints .i64 f),.live (.ints .i64 (plA k l f))],(decide (n=f.length)&&(bet k 1 2&&(bet l 0 7&&(aM f&&(decide (f.length≤8)&&((plB k l f)&&true)))))),[]⟩:=by kernel_rfl
theorem a4W (k l:Int) (n:Nat) (f:List Int) (b0:Int) (F0 B0:List Int):aG tt (aB T93) ([]) 100 fP2 [.c (.sl 0 0 n 1 none),.c (.ptr 1 0 0 0),.c (.ptr 2 0 0 0),.c (.ptr 3 0 0 0)] [.live (.ints .i64 f),.live (.ints .i64 [k]),.live (.ints .i64 [l]),.live (.cells [.int .i64 b0,.view none (.ints .i64 F0) F0.length 1 none,.view none (.ints .i64 B0) B0.length 1 none])] [(0,false)]=
  some ⟨.c (.bool (plB k l f)),[.live (.ints .i64 f),.live (.ints .i64 [k]),.live (.ints .i64 [l]),.live (.cells [.int .i64 b0,.view none (.ints .i64 F0) F0.length 1 none,.view none (.ints .i64 B0) B0.length 1 none])],(decide (n=f.length)&&(bet k 1 2&&(bet l 0 7&&(aM f&&(decide (f.length≤8)&&((!plB k l f)&&true)))))),[]⟩:=by kernel_rfl
def uN (b:Bool) (x y:List Int):List Int:=bif b then x else y
def PR:aQ:=fun args h=>
 match args,h with
 |[.c (.sl 0 0 n 1 none),.c (.ptr 1 0 0 0),.c (.ptr 2 0 0 0),.c (.ptr 3 0 0 0)],[.live (.ints .i64 f),.live (.ints .i64 [k]),.live (.ints .i64 [l]),.live (.cells [.int .i64 b0,.view none (.ints .i64 F0) n1 1 none,.view none (.ints .i64 B0) n2 1 none])]=>
  some (.c (.bool (plB k l f)),[.live (.ints .i64 f),.live (.ints .i64 [k]),.live (.ints .i64 [l]),.live (.cells [.int .i64 (bif plB k l f then l else b0),.view none (.ints .i64 (uN (plB k l f) f F0)) (uN (plB k l f) f F0).length 1 none,.view none (.ints .i64 (uN (plB k l f) (plA k l f) B0)) (uN (plB k l f) (plA k l f) B0).length 1 none]),.dead,.dead],[bet k 1 2,bet l 0 7,aM f,decide (f.length≤8),decide (n=f.length),decide (n1=F0.length),decide (n2=B0.length)])
 |_,_=>none
theorem mP2:aS Tryz.prog 164 PR:=by
 intro args h res h' o he ho
 unfold PR at he
 split at he
 case h_2=>cases he
 rename_i n f k l b0 F0 n1 B0 n2
 simp only[Option.some.injEq,Prod.mk.injEq]at he
 obtain⟨rfl,rfl,rfl⟩:=he
 simp only[List.mem_cons,List.not_mem_nil,or_false,forall_eq_or_imp,forall_eq,decide_eq_true_eq]at ho
 obtain⟨o1,o2,o3,o4,o5,o6,o7⟩:=ho
 subst o5 o6 o7
 cases hz:plB k l f with
 |true=>
  have e:=a4V k l f.length f b0 F0 B0
  rw[hz]at e
  exact bE.frozH (bE.frozH (a5 t93 (by kernel_rfl) (by kernel_rfl) e (by simp[o1,o2,o3,o4]) (by simp) (fun cc hcc=>aF.nil)) (j:=3) (i:=1) (id:=4) rfl (Nat.lt_of_sub_eq_succ rfl) rfl rfl rfl rfl (by decide)) (j:=3) (i:=2) (id:=5) rfl (Nat.lt_of_sub_eq_succ rfl) rfl rfl rfl rfl (by decide)
 |false=>
  have e:=a4W k l f.length f b0 F0 B0
  rw[hz]at e
  exact(a5 t93 (by kernel_rfl) (by kernel_rfl) e (by simp[o1,o2,o3,o4]) (by simp) (fun cc hcc=>aF.nil)).addDead.addDead
end
section
noncomputable def T94:List bF:=[⟨164,[0,1,2,3],PR⟩]++T93
theorem e94:a8 Tryz.prog T94:=by
 refine a8.append ?_ e93
 intro e he
 simp only[List.mem_cons,List.not_mem_nil,or_false]at he
 subst he;exact mP2
theorem t94:bN Tryz.prog (aB T94):=aP e94
def ch (p:List Int→Bool) (sh:List Int):Nat→Nat→List Int→Option (List Int)
 |_,0,f=>bif p f then some f else none
 |0,_+1,_=>none
 |j+1,m+1,f=>match ch p sh j m (f++[sh.getD (sh.length-(j+1)) 0])with
  |some x=>some x
  |none=>ch p sh j (m+1) f
theorem WL (p:List Int→Bool) (sh:List Int) (j:Nat) (f:List Int):ch p sh j 0 f=bif p f then some f else none:=by cases j<;>rfl
def chR (k l:Int) (sh:List Int) (a m:Nat) (f:List Int):Option (List Int):=ch (plB k l) sh (sh.length-a) m f
def ogL (r:Option (List Int)) (x:List Int):List Int:=r.getD x
def orB (k l:Int) (r:Option (List Int)) (x:List Int):List Int:=uN (isO r) (plA k l (lsO r)) x
noncomputable abbrev fC1:=Tryz.f195
noncomputable def hC1 (n:Nat) (many:Int) (ns:Nat) (cur:List Int) (k l:Int) (b0:Int) (n1 n2:Nat) (sh F0 B0:List Int):List b9:=
 [.live (.cells [.sl 5 0 n 1 none]),.live (.ints .i64 [many]),.live (.cells [.fn 164 [.ptr 6 0 0 0,.ptr 7 0 0 0,.ptr 8 0 0 0]]),.live (.cells [.sl 9 0 ns 1 none]),.live (.cells [.fn 195 [.ptr 0 0 0 0,.ptr 1 0 0 0,.ptr 2 0 0 0,.ptr 3 0 0 0,.ptr 4 0 0 0]]),.live (.ints .i64 cur),.live (.ints .i64 [k]),.live (.ints .i64 [l]),.live (.cells [.int .i64 b0,.view none (.ints .i64 F0) n1 1 none,.view none (.ints .i64 B0) n2 1 none]),.live (.ints .i64 sh)]
noncomputable def oC1 (n:Nat) (many:Int) (ns:Nat) (cur:List Int) (k l:Int) (b0:Int) (n1 n2:Nat) (sh F0 B0:List Int):List b9:=
 [.live (.cells [.sl 10 0 n 1 none]),.live (.ints .i64 [many]),.live (.cells [.fn 164 [.ptr 6 0 0 0,.ptr 7 0 0 0,.ptr 8 0 0 0]]),.live (.cells [.sl 9 0 ns 1 none]),.live (.cells [.fn 195 [.ptr 0 0 0 0,.ptr 1 0 0 0,.ptr 2 0 0 0,.ptr 3 0 0 0,.ptr 4 0 0 0]]),.dead,.live (.ints .i64 [k]),.live (.ints .i64 [l]),.live (.cells [.int .i64 b0,.view none (.ints .i64 F0) n1 1 none,.view none (.ints .i64 B0) n2 1 none]),.live (.ints .i64 sh),.live (.ints .i64 cur)]
def G5 (x:Nat):aQ:=fun args h=>
 match args,h with
 |[.c (.int .i64 a),.c (.ptr 0 0 0 0),.c (.ptr 1 0 0 0),.c (.ptr 2 0 0 0),.c (.ptr 3 0 0 0),.c (.ptr 4 0 0 0)],[.live (.cells [.sl 5 0 n 1 none]),.live (.ints .i64 [many]),.live (.cells [.fn p2 [.ptr 6 0 0 0,.ptr 7 0 0 0,.ptr 8 0 0 0]]),.live (.cells [.sl 9 0 ns 1 none]),.live (.cells [.fn c1 [.ptr 0 0 0 0,.ptr 1 0 0 0,.ptr 2 0 0 0,.ptr 3 0 0 0,.ptr 4 0 0 0]]),.live (.ints .i64 cur),.live (.ints .i64 [k]),.live (.ints .i64 [l]),.live (.cells [.int .i64 b0,.view none (.ints .i64 F0) n1 1 none,.view none (.ints .i64 B0) n2 1 none]),.live (.ints .i64 sh)]=>
  if p2=164∧c1=195 then
  some (.c (.bool (isO (chR k l sh a.toNat (many.toNat-cur.length) cur))),[.live (.cells [.sl 10 0 (ogL (chR k l sh a.toNat (many.toNat-cur.length) cur) cur).length 1 none]),.live (.ints .i64 [many]),.live (.cells [.fn 164 [.ptr 6 0 0 0,.ptr 7 0 0 0,.ptr 8 0 0 0]]),.live (.cells [.sl 9 0 sh.length 1 none]),.live (.cells [.fn 195 [.ptr 0 0 0 0,.ptr 1 0 0 0,.ptr 2 0 0 0,.ptr 3 0 0 0,.ptr 4 0 0 0]]),.dead,.live (.ints .i64 [k]),.live (.ints .i64 [l]),.live (.cells [.int .i64 (bif isO (chR k l sh a.toNat (many.toNat-cur.length) cur)then l else b0),.view none (.ints .i64 (ogL (chR k l sh a.toNat (many.toNat-cur.length) cur) F0)) (ogL (chR k l sh a.toNat (many.toNat-cur.length) cur) F0).length 1 none,.view none (.ints .i64 (orB k l (chR k l sh a.toNat (many.toNat-cur.length) cur) B0)) (orB k l (chR k l sh a.toNat (many.toNat-cur.length) cur) B0).length 1 none]),.live (.ints .i64 sh),.live (.ints .i64 (ogL (chR k l sh a.toNat (many.toNat-cur.length) cur) cur))],[decide (many.toNat-cur.length<x),bet k 1 2,bet l 0 7,aM sh,aM cur,decide (n=cur.length),decide (n1=F0.length),decide (n2=B0.length),decide (ns=sh.length),decide (sh.length≤8),bet a 0 sh.length,decide ((cur.length:Int)≤many),decide (many≤4)])
  else none
 |_,_=>none
noncomputable def T95 (x:Nat):List bF:=⟨195,[1,2,3,4,5],G5 x⟩::T94
noncomputable def IC1 (n:Nat) (many:Int) (ns:Nat) (cur:List Int) (k l:Int) (b0:Int) (n1 n2:Nat) (sh F0 B0:List Int) (i:Int):St:=bA fC1.ntmps [(1,.c (.ptr 0 0 0 0)),(4,.c (.ptr 3 0 0 0)),(5,.c (.ptr 4 0 0 0)),(8,.c (.int .i64 i))] (oC1 n many ns cur k l b0 n1 n2 sh F0 B0)
noncomputable def YC1 (n:Nat) (many:Int) (ns:Nat) (cur:List Int) (k l:Int) (b0:Int) (n1 n2:Nat) (sh F0 B0:List Int):St:=bA fC1.ntmps [(7,.c (.bool true))] (oC1 n many ns cur k l b0 n1 n2 sh F0 B0)
noncomputable def XC1 (n:Nat) (many:Int) (ns:Nat) (cur:List Int) (k l:Int) (b0:Int) (n1 n2:Nat) (sh F0 B0:List Int):St:=bA fC1.ntmps [] (oC1 n many ns cur k l b0 n1 n2 sh F0 B0)
noncomputable def JC1 (n:Nat) (many:Int) (ns:Nat) (cur:List Int) (k l:Int) (b0:Int) (n1 n2:Nat) (sh F0 B0:List Int) (i:Int):St:=bA fC1.ntmps [(1,.c (.ptr 0 0 0 0)),(4,.c (.ptr 3 0 0 0)),(5,.c (.ptr 4 0 0 0)),(8,.c (.int .i64 i))] (hC1 n many ns cur k l b0 n1 n2 sh F0 B0)
theorem W8 (x:Nat) (a:Int) (n:Nat) (many:Int) (ns:Nat) (cur:List Int) (k l:Int) (b0:Int) (n1 n2:Nat) (sh F0 B0:List Int) (lcv:List (Nat×LC)):aG tt (aB (T95 x)) (lcv) 100 fC1 [.c (.int .i64 a),.c (.ptr 0 0 0 0),.c (.ptr 1 0 0 0),.c (.ptr 2 0 0 0),.c (.ptr 3 0 0 0),.c (.ptr 4 0 0 0)] (hC1 n many ns cur k l b0 n1 n2 sh F0 B0) [(0,true)]=
  some ⟨.c (.bool (plB k l cur)),[.live (.cells [.sl 5 0 n 1 none]),.live (.ints .i64 [many]),.live (.cells [.fn 164 [.ptr 6 0 0 0,.ptr 7 0 0 0,.ptr 8 0 0 0]]),.live (.cells [.sl 9 0 ns 1 none]),.live (.cells [.fn 195 [.ptr 0 0 0 0,.ptr 1 0 0 0,.ptr 2 0 0 0,.ptr 3 0 0 0,.ptr 4 0 0 0]]),.live (.ints .i64 cur),.live (.ints .i64 [k]),.live (.ints .i64 [l]),.live (.cells [.int .i64 (bif plB k l cur then l else b0),.view none (.ints .i64 (uN (plB k l cur) cur F0)) (uN (plB k l cur) cur F0).length 1 none,.view none (.ints .i64 (uN (plB k l cur) (plA k l cur) B0)) (uN (plB k l cur) (plA k l cur) B0).length 1 none]),.live (.ints .i64 sh)],(((↑n:Int)==many)&&(bet k 1 2&&(bet l 0 7&&(aM cur&&(decide (cur.length≤8)&&(decide (n=cur.length)&&(decide (n1=F0.length)&&((decide (n2=B0.length))&&true)))))))),[]⟩:=by kernel_rfl
theorem W9 (x:Nat) (a:Int) (n:Nat) (many:Int) (ns:Nat) (cur:List Int) (k l:Int) (b0:Int) (n1 n2:Nat) (sh F0 B0:List Int):aG tt (aB (T95 x)) ([(0,⟨aA fC1 0,JC1 n many ns cur k l b0 n1 n2 sh F0 B0 a,.normal,XC1 n many ns cur k l b0 n1 n2 sh F0 B0⟩)]) 100 fC1 [.c (.int .i64 a),.c (.ptr 0 0 0 0),.c (.ptr 1 0 0 0),.c (.ptr 2 0 0 0),.c (.ptr 3 0 0 0),.c (.ptr 4 0 0 0)] (hC1 n many ns cur k l b0 n1 n2 sh F0 B0) [(0,false)]=
  some ⟨.c (.bool false),[.live (.cells [.sl 10 0 n 1 none]),.live (.ints .i64 [many]),.live (.cells [.fn 164 [.ptr 6 0 0 0,.ptr 7 0 0 0,.ptr 8 0 0 0]]),.live (.cells [.sl 9 0 ns 1 none]),.live (.cells [.fn 195 [.ptr 0 0 0 0,.ptr 1 0 0 0,.ptr 2 0 0 0,.ptr 3 0 0 0,.ptr 4 0 0 0]]),.dead,.live (.ints .i64 [k]),.live (.ints .i64 [l]),.live (.cells [.int .i64 b0,.view none (.ints .i64 F0) n1 1 none,.view none (.ints .i64 B0) n2 1 none]),.live (.ints .i64 sh),.live (.ints .i64 cur)],((!(↑n:Int)==many)&&true),[JC1 n many ns cur k l b0 n1 n2 sh F0 B0 a=JC1 n many ns cur k l b0 n1 n2 sh F0 B0 a]⟩:=by kernel_rfl
theorem W7 (x:Nat) (a:Int) (n:Nat) (many:Int) (ns:Nat) (cur:List Int) (k l:Int) (b0:Int) (n1 n2:Nat) (sh F0 B0:List Int) (n':Nat) (ns':Nat) (cur':List Int) (b':Int) (n1' n2':Nat) (F' B':List Int):aG tt (aB (T95 x)) ([(0,⟨aA fC1 0,JC1 n many ns cur k l b0 n1 n2 sh F0 B0 a,.ret,YC1 n' many ns' cur' k l b' n1' n2' sh F' B'⟩)]) 100 fC1 [.c (.int .i64 a),.c (.ptr 0 0 0 0),.c (.ptr 1 0 0 0),.c (.ptr 2 0 0 0),.c (.ptr 3 0 0 0),.c (.ptr 4 0 0 0)] (hC1 n many ns cur k l b0 n1 n2 sh F0 B0) [(0,false)]=
  some ⟨.c (.bool true),[.live (.cells [.sl 10 0 n' 1 none]),.live (.ints .i64 [many]),.live (.cells [.fn 164 [.ptr 6 0 0 0,.ptr 7 0 0 0,.ptr 8 0 0 0]]),.live (.cells [.sl 9 0 ns' 1 none]),.live (.cells [.fn 195 [.ptr 0 0 0 0,.ptr 1 0 0 0,.ptr 2 0 0 0,.ptr 3 0 0 0,.ptr 4 0 0 0]]),.dead,.live (.ints .i64 [k]),.live (.ints .i64 [l]),.live (.cells [.int .i64 b',.view none (.ints .i64 F') n1' 1 none,.view none (.ints .i64 B') n2' 1 none]),.live (.ints .i64 sh),.live (.ints .i64 cur')],((!(↑n:Int)==many)&&true),[JC1 n many ns cur k l b0 n1 n2 sh F0 B0 a=JC1 n many ns cur k l b0 n1 n2 sh F0 B0 a]⟩:=by kernel_rfl
theorem TQ (x:Nat) (i:Int) (n:Nat) (many:Int) (ns:Nat) (cur:List Int) (k l:Int) (b0:Int) (n1 n2:Nat) (sh F0 B0:List Int):aH 10 (aA fC1 0) (aD fC1 0) (aK tt (aB (T95 x)) ([]) 10 100 (a6 0 (a7 fC1)) (IC1 n many ns cur k l b0 n1 n2 sh F0 B0 i) [(0,true),(0,true)])=
  some (.ret,(decide (i<(↑ns:Int))&&(decide (0≤i)&&(decide (i<(↑ns:Int))&&(decide (i.toNat<sh.length)&&(decide (n=cur.length)&&(decide (n+1≤274877906944)&&(decide (many.toNat-(cur++[sh.getD i.toNat 0]).length<x)&&(bet k 1 2&&(bet l 0 7&&(aM sh&&(aM (cur++[sh.getD i.toNat 0])&&(decide (n+1=(cur++[sh.getD i.toNat 0]).length)&&(decide (n1=F0.length)&&(decide (n2=B0.length)&&(decide (ns=sh.length)&&(decide (sh.length≤8)&&(bet (IntKind.i64.wrap (i+1)) 0 (↑sh.length:Int)&&(decide ((↑(cur++[sh.getD i.toNat 0]).length:Int)≤many)&&(decide (many≤4)&&((isO (chR k l sh (IntKind.i64.wrap (i+1)).toNat (many.toNat-(cur++[sh.getD i.toNat 0]).length) (cur++[sh.getD i.toNat 0])))&&true)))))))))))))))))))),[],YC1 ((ogL (chR k l sh (IntKind.i64.wrap (i+1)).toNat (many.toNat-(cur++[sh.getD i.toNat 0]).length) (cur++[sh.getD i.toNat 0])) (cur++[sh.getD i.toNat 0])).length) many (sh.length) (ogL (chR k l sh (IntKind.i64.wrap (i+1)).toNat (many.toNat-(cur++[sh.getD i.toNat 0]).length) (cur++[sh.getD i.toNat 0])) (cur++[sh.getD i.toNat 0])) k l (bif isO (chR k l sh (IntKind.i64.wrap (i+1)).toNat (many.toNat-(cur++[sh.getD i.toNat 0]).length) (cur++[sh.getD i.toNat 0]))then l else b0) ((ogL (chR k l sh (IntKind.i64.wrap (i+1)).toNat (many.toNat-(cur++[sh.getD i.toNat 0]).length) (cur++[sh.getD i.toNat 0])) F0).length) ((orB k l (chR k l sh (IntKind.i64.wrap (i+1)).toNat (many.toNat-(cur++[sh.getD i.toNat 0]).length) (cur++[sh.getD i.toNat 0])) B0).length) sh (ogL (chR k l sh (IntKind.i64.wrap (i+1)).toNat (many.toNat-(cur++[sh.getD i.toNat 0]).length) (cur++[sh.getD i.toNat 0])) F0) (orB k l (chR k l sh (IntKind.i64.wrap (i+1)).toNat (many.toNat-(cur++[sh.getD i.toNat 0]).length) (cur++[sh.getD i.toNat 0])) B0)):=by kernel_rfl
theorem TR (x:Nat) (i:Int) (n:Nat) (many:Int) (ns:Nat) (cur:List Int) (k l:Int) (b0:Int) (n1 n2:Nat) (sh F0 B0:List Int):aH 10 (aA fC1 0) (aD fC1 0) (aK tt (aB (T95 x)) ([]) 10 100 (a6 0 (a7 fC1)) (IC1 n many ns cur k l b0 n1 n2 sh F0 B0 i) [(0,true),(0,false)])=
  some (.normal,(decide (i<(↑ns:Int))&&(decide (0≤i)&&(decide (i<(↑ns:Int))&&(decide (i.toNat<sh.length)&&(decide (n=cur.length)&&(decide (n+1≤274877906944)&&(decide (many.toNat-(cur++[sh.getD i.toNat 0]).length<x)&&(bet k 1 2&&(bet l 0 7&&(aM sh&&(aM (cur++[sh.getD i.toNat 0])&&(decide (n+1=(cur++[sh.getD i.toNat 0]).length)&&(decide (n1=F0.length)&&(decide (n2=B0.length)&&(decide (ns=sh.length)&&(decide (sh.length≤8)&&(bet (IntKind.i64.wrap (i+1)) 0 (↑sh.length:Int)&&(decide ((↑(cur++[sh.getD i.toNat 0]).length:Int)≤many)&&(decide (many≤4)&&(!isO (chR k l sh (IntKind.i64.wrap (i+1)).toNat (many.toNat-(cur++[sh.getD i.toNat 0]).length) (cur++[sh.getD i.toNat 0]))&&(decide (0≤IntKind.i64.wrap ((↑(ogL (chR k l sh (IntKind.i64.wrap (i+1)).toNat (many.toNat-(cur++[sh.getD i.toNat 0]).length) (cur++[sh.getD i.toNat 0])) (cur++[sh.getD i.toNat 0])).length:Int)-1))&&((decide (IntKind.i64.wrap ((↑(ogL (chR k l sh (IntKind.i64.wrap (i+1)).toNat (many.toNat-(cur++[sh.getD i.toNat 0]).length) (cur++[sh.getD i.toNat 0])) (cur++[sh.getD i.toNat 0])).length:Int)-1)≤(↑(ogL (chR k l sh (IntKind.i64.wrap (i+1)).toNat (many.toNat-(cur++[sh.getD i.toNat 0]).length) (cur++[sh.getD i.toNat 0])) (cur++[sh.getD i.toNat 0])).length:Int)))&&true)))))))))))))))))))))),[],IC1 ((IntKind.i64.wrap ((↑(ogL (chR k l sh (IntKind.i64.wrap (i+1)).toNat (many.toNat-(cur++[sh.getD i.toNat 0]).length) (cur++[sh.getD i.toNat 0])) (cur++[sh.getD i.toNat 0])).length:Int)-1)).toNat) many (sh.length) (ogL (chR k l sh (IntKind.i64.wrap (i+1)).toNat (many.toNat-(cur++[sh.getD i.toNat 0]).length) (cur++[sh.getD i.toNat 0])) (cur++[sh.getD i.toNat 0])) k l (bif isO (chR k l sh (IntKind.i64.wrap (i+1)).toNat (many.toNat-(cur++[sh.getD i.toNat 0]).length) (cur++[sh.getD i.toNat 0]))then l else b0) ((ogL (chR k l sh (IntKind.i64.wrap (i+1)).toNat (many.toNat-(cur++[sh.getD i.toNat 0]).length) (cur++[sh.getD i.toNat 0])) F0).length) ((orB k l (chR k l sh (IntKind.i64.wrap (i+1)).toNat (many.toNat-(cur++[sh.getD i.toNat 0]).length) (cur++[sh.getD i.toNat 0])) B0).length) sh (ogL (chR k l sh (IntKind.i64.wrap (i+1)).toNat (many.toNat-(cur++[sh.getD i.toNat 0]).length) (cur++[sh.getD i.toNat 0])) F0) (orB k l (chR k l sh (IntKind.i64.wrap (i+1)).toNat (many.toNat-(cur++[sh.getD i.toNat 0]).length) (cur++[sh.getD i.toNat 0])) B0) (IntKind.i64.wrap (i+1))):=by kernel_rfl
theorem TS (x:Nat) (i:Int) (n:Nat) (many:Int) (ns:Nat) (cur:List Int) (k l:Int) (b0:Int) (n1 n2:Nat) (sh F0 B0:List Int):aH 10 (aA fC1 0) (aD fC1 0) (aK tt (aB (T95 x)) ([]) 10 100 (a6 0 (a7 fC1)) (IC1 n many ns cur k l b0 n1 n2 sh F0 B0 i) [(0,false)])=
  some (.exit 0,((!decide (i<(↑ns:Int)))&&true),[],XC1 (n) many (ns) (cur) k l (b0) (n1) (n2) sh (F0) (B0)):=by kernel_rfl
theorem wJC (n:Nat) (many:Int) (ns:Nat) (cur:List Int) (k l:Int) (b0:Int) (n1 n2:Nat) (sh F0 B0:List Int) (i:Int):cX 10 (JC1 n many ns cur k l b0 n1 n2 sh F0 B0 i) (IC1 n many ns cur k l b0 n1 n2 sh F0 B0 i):=(cX.addDead (s:=JC1 n many ns cur k l b0 n1 n2 sh F0 B0 i)).trans (by
 have h:=cX.remapD (m:=10) (s:=⟨(JC1 n many ns cur k l b0 n1 n2 sh F0 B0 i).tmps,(JC1 n many ns cur k l b0 n1 n2 sh F0 B0 i).heap++[.dead]⟩) (live:=[1,4,5,8]) (order:=[0,1,2,3,4,10,6,7,8,9,5]) (by kernel_rfl) (by kernel_rfl)
 have e:Am.remap [1,4,5,8] [0,1,2,3,4,10,6,7,8,9,5] ⟨(JC1 n many ns cur k l b0 n1 n2 sh F0 B0 i).tmps,(JC1 n many ns cur k l b0 n1 n2 sh F0 B0 i).heap++[.dead]⟩=IC1 n many ns cur k l b0 n1 n2 sh F0 B0 i:=by kernel_rfl
 rw[e]at h
 exact h)
theorem KC (cur:List Int) (y:Int):(cur++[y]).take cur.length=cur:=by rw[List.take_append_of_le_length (Nat.le_refl _),List.take_length]
theorem wIC (n:Nat) (many:Int) (ns:Nat) (cur:List Int) (k l:Int) (b0:Int) (n1 n2:Nat) (sh F0 B0:List Int) (y:Int) (i:Int):cX 10 (IC1 n many ns (cur++[y]) k l b0 n1 n2 sh F0 B0 i) (IC1 n many ns cur k l b0 n1 n2 sh F0 B0 i):=by
 have h:=cA.take .i64 (cur++[y]) cur.length
 rw[KC]at h
 exact cX.slots ⟨cA.refl _,cA.refl _,cA.refl _,cA.refl _,cA.refl _,cA.refl _,cA.refl _,cA.refl _,cA.refl _,cA.refl _,h,trivial⟩
theorem jO: ∀h:List b9,oC h h
 |[]=>trivial
 |s::r=>⟨cA.refl s,jO r⟩
theorem lC1 (x:Nat) (ht:bN Tryz.prog (aB (T95 x))) (many:Int) (cur:List Int) (k l b0:Int) (sh F0 B0:List Int) (M:Nat) (hx:M<x) (hk:bet k 1 2=true) (hl:bet l 0 7=true) (hsh:aM sh=true) (hcur:aM cur=true) (h8:sh.length≤8) (hm:many=((cur.length+(M+1):Nat):Int)) (h4:many≤4):
  ∀j,j≤sh.length→aW Tryz.prog 10 (.block 0 (.loop (a6 0 (a7 fC1)))) (IC1 cur.length many sh.length cur k l b0 F0.length B0.length sh F0 B0 ((sh.length-j:Nat):Int)) fun e t=>e=(bif isO (ch (plB k l) sh j (M+1) cur)then .ret else .normal)∧t=(bif isO (ch (plB k l) sh j (M+1) cur)then YC1 (ogL (ch (plB k l) sh j (M+1) cur) cur).length many sh.length (ogL (ch (plB k l) sh j (M+1) cur) cur) k l (bif isO (ch (plB k l) sh j (M+1) cur)then l else b0) (ogL (ch (plB k l) sh j (M+1) cur) F0).length (orB k l (ch (plB k l) sh j (M+1) cur) B0).length sh (ogL (ch (plB k l) sh j (M+1) cur) F0) (orB k l (ch (plB k l) sh j (M+1) cur) B0)else XC1 cur.length many sh.length cur k l b0 F0.length B0.length sh F0 B0):=by
 refine aW.roundsW hT ht bM (m:=10) (id:=0) (body:=a6 0 (a7 fC1)) (α:=Nat) (fun j=>j≤sh.length) (fun j=>IC1 cur.length many sh.length cur k l b0 F0.length B0.length sh F0 B0 ((sh.length-j:Nat):Int)) (fun j=>j) (aA fC1 0) (aD fC1 0)
  (fun j=>bif isO (ch (plB k l) sh j (M+1) cur)then .ret else .normal) (fun j=>bif isO (ch (plB k l) sh j (M+1) cur)then YC1 (ogL (ch (plB k l) sh j (M+1) cur) cur).length many sh.length (ogL (ch (plB k l) sh j (M+1) cur) cur) k l (bif isO (ch (plB k l) sh j (M+1) cur)then l else b0) (ogL (ch (plB k l) sh j (M+1) cur) F0).length (orB k l (ch (plB k l) sh j (M+1) cur) B0).length sh (ogL (ch (plB k l) sh j (M+1) cur) F0) (orB k l (ch (plB k l) sh j (M+1) cur) B0)else XC1 cur.length many sh.length cur k l b0 F0.length B0.length sh F0 B0) (fun _=>[]) (fun _ _=>aF.nil) (fun j hj=> ?_)
 cases j with
 |zero=>
  refine⟨_,_,_,_,_,_,TS x ((sh.length-0:Nat):Int) cur.length many sh.length cur k l b0 F0.length B0.length sh F0 B0,by simp,by simp,.inr (.inl ⟨rfl,rfl, ?_⟩)⟩
  exact cX.slots (jO _)
 |succ j=>
  obtain⟨a,ha⟩: ∃a:Nat,sh.length-(j+1)=a:=⟨_,rfl⟩
  have go:ch (plB k l) sh (j+1) (M+1) cur=(match ch (plB k l) sh j M (cur++[sh.getD a 0])with|some y=>some y|none=>ch (plB k l) sh j (M+1) cur):=by rw[←ha];rfl
  rw[ha]
  have w1:IntKind.i64.wrap ((a:Int)+1)=((a+1:Nat):Int):=by rw[aE (by omega) (by omega)];omega
  have hy:aM (cur++[sh.getD a 0])=true:=by
   have:=cD hsh (i:=a) (by omega)
   simp only[aM,List.all_append,List.all_cons,List.all_nil,Bool.and_true,Bool.and_eq_true]at hcur⊢
   exact⟨hcur,this⟩
  have er:chR k l sh (a+1) (many.toNat-(cur++[sh.getD a 0]).length) (cur++[sh.getD a 0])=ch (plB k l) sh j M (cur++[sh.getD a 0]):=by
   unfold chR
   rw[show sh.length-(a+1)=j from by omega,show many.toNat-(cur++[sh.getD a 0]).length=M from by rw[List.length_append,hm];simp;omega]
  have b1:bet ((a+1:Nat):Int) 0 (sh.length:Int)=true:=b8.2 (by omega)
  rw[go]
  cases hr:ch (plB k l) sh j M (cur++[sh.getD a 0])with
  |some y=>
   have e:=TQ x (a:Int) cur.length many sh.length cur k l b0 F0.length B0.length sh F0 B0
   rw[w1]at e
   simp only[Int.toNat_natCast,er,hr]at e
   refine⟨_,_,_,_,_,_,e, ?_,by simp,.inr (.inr ⟨by simp,by simp,rfl,cX.slots (jO _)⟩)⟩
   simp only[hk,hl,hsh,hy,b1,isO,Option.isSome_some,List.length_append,List.length_cons,List.length_nil,decide_true,bS]
   omega
  |none=>
   have e:=TR x (a:Int) cur.length many sh.length cur k l b0 F0.length B0.length sh F0 B0
   rw[w1]at e
   simp only[Int.toNat_natCast,er,hr]at e
   refine⟨_,_,_,_,_,_,e, ?_,by simp,.inl ⟨rfl,j,by omega,Nat.lt_succ_self _, ?_,rfl,rfl⟩⟩
   ·simp only[hk,hl,hsh,hy,b1,isO,Option.isSome_none,List.length_append,List.length_cons,List.length_nil,decide_true,bS]
    have w3:IntKind.i64.wrap (((cur.length+1:Nat):Int)-1)=(cur.length:Int):=by rw[aE (by omega) (by omega)];omega
    simp only[ogL,Option.getD_none,List.length_append,List.length_cons,List.length_nil,Nat.zero_add,w3]
    omega
   ·have w3:IntKind.i64.wrap (((cur++[sh.getD a 0]).length:Int)-1)=(cur.length:Int):=by rw[List.length_append,aE (by simp<;>omega) (by simp<;>omega)];simp
    rw[show sh.length-j=a+1 from by omega]
    simp only[ogL,isO,orB,uN,Option.isSome_none,Option.getD_none,cond_false,w3,Int.toNat_natCast]
    exact wIC _ _ _ _ _ _ _ _ _ _ _ _ _ _
end
section
theorem mC1: ∀x,aS Tryz.prog 195 (G5 x):=by
 intro x
 induction x with
 |zero=>
  intro args h res h' o he ho
  unfold G5 at he
  split at he
  case h_2=>cases he
  split at he
  case isFalse=>cases he
  simp only[Option.some.injEq,Prod.mk.injEq]at he
  obtain⟨rfl,rfl,rfl⟩:=he
  simp only[List.mem_cons,List.not_mem_nil,or_false,forall_eq_or_imp,forall_eq,decide_eq_true_eq]at ho
  omega
 |succ x ih=>
  have ht:bN Tryz.prog (aB (T95 x)):=aP fun e he=>by
   rcases List.mem_cons.1 he with rfl|he
   ·exact ih
   ·exact e94 e he
  intro args h res h' o he ho
  unfold G5 at he
  split at he
  case h_2=>cases he
  split at he
  case isFalse=>cases he
  rename_i a n many p2 ns c1 cur k l b0 F0 n1 B0 n2 sh hp
  obtain⟨rfl,rfl⟩:=hp
  simp only[Option.some.injEq,Prod.mk.injEq]at he
  obtain⟨rfl,rfl,rfl⟩:=he
  simp only[List.mem_cons,List.not_mem_nil,or_false,forall_eq_or_imp,forall_eq,decide_eq_true_eq]at ho
  obtain⟨o1,o2,o3,o4,o5,o6,o7,o8,o9,o10,o11,o12,o13⟩:=ho
  subst o6 o7 o8 o9
  have hb:=b8.1 o11
  obtain⟨a,rfl⟩: ∃a':Nat,a=(a':Int):=⟨a.toNat,by omega⟩
  obtain⟨M,hM⟩: ∃M,many.toNat-cur.length=M:=⟨_,rfl⟩
  have hm:many=((cur.length+M:Nat):Int):=by omega
  rw[hM]
  simp only[Int.toNat_natCast]
  cases M with
  |zero=>
   have er:chR k l sh a 0 cur=bif plB k l cur then some cur else none:=WL _ _ _ _
   rw[er]
   have h0:((cur.length:Int)==many)=true:=by rw[beq_iff_eq];omega
   have e:=W8 x (a:Int) cur.length many sh.length cur k l b0 F0.length B0.length sh F0 B0 []
   cases hp:plB k l cur with
   |true=>
    rw[hp]at e
    exact((a5 ht (by kernel_rfl) (by kernel_rfl) e (by simp only[h0,o2,o3,o5,bS];omega) (by simp) (fun cc _=>aF.nil)).addDead).remapD (order:=[0,1,2,3,4,10,6,7,8,9,5]) (by kernel_rfl) (by kernel_rfl)
   |false=>
    rw[hp]at e
    exact((a5 ht (by kernel_rfl) (by kernel_rfl) e (by simp only[h0,o2,o3,o5,bS];omega) (by simp) (fun cc _=>aF.nil)).addDead).remapD (order:=[0,1,2,3,4,10,6,7,8,9,5]) (by kernel_rfl) (by kernel_rfl)
  |succ M=>
   have h0:((cur.length:Int)==many)=false:=by rw[beq_eq_false_iff_ne];omega
   have g:=lC1 x ht many cur k l b0 sh F0 B0 M (by omega) o2 o3 o4 o5 o10 hm o13 (sh.length-a) (by omega)
   rw[show sh.length-(sh.length-a)=a from by omega]at g
   have g:=g.pre (wJC cur.length many sh.length cur k l b0 F0.length B0.length sh F0 B0 a)
   have er:chR k l sh a (M+1) cur=ch (plB k l) sh (sh.length-a) (M+1) cur:=rfl
   rw[er]
   cases hr:ch (plB k l) sh (sh.length-a) (M+1) cur with
   |some y=>
    rw[hr]at g
    exact a5 ht (by kernel_rfl) (by kernel_rfl) (W7 x (a:Int) cur.length many sh.length cur k l b0 F0.length B0.length sh F0 B0 (ogL (some y) cur).length sh.length (ogL (some y) cur) l (ogL (some y) F0).length (orB k l (some y) B0).length (ogL (some y) F0) (orB k l (some y) B0)) (by simp only[h0,bS]) (by simp) (fun cc hcc=>aF.cons (c:=cc) (by cases hcc;kernel_rfl) (by cases hcc;exact g) aF.nil)
   |none=>
    rw[hr]at g
    exact a5 ht (by kernel_rfl) (by kernel_rfl) (W9 x (a:Int) cur.length many sh.length cur k l b0 F0.length B0.length sh F0 B0) (by simp only[h0,bS]) (by simp) (fun cc hcc=>aF.cons (c:=cc) (by cases hcc;kernel_rfl) (by cases hcc;exact g) aF.nil)
end
section
theorem a84:aS Tryz.prog 162 (dZ tt (aB T94) Tryz.f162 []):=d6 hT t94 bM [] (by kernel_rfl) (by kernel_rfl)
noncomputable def T97:List bF:=[⟨195,[1,2,3,4,5],G5 5⟩,⟨162,[1],dZ tt (aB T94) Tryz.f162 []⟩]++T94
theorem e97:a8 Tryz.prog T97:=by
 refine a8.append ?_ e94
 intro e he
 simp only[List.mem_cons,List.not_mem_nil,or_false]at he
 rcases he with rfl|rfl
 ·exact mC1 5
 ·exact a84
theorem t97:bN Tryz.prog (aB T97):=aP e97
noncomputable abbrev f7:=Tryz.f176
noncomputable def jR (l:Int) (v:List Int) (i:Int):St:=
 bA f7.ntmps [(0,.c (.sl 0 0 v.length 1 none)),(1,.c (.fn 162 [.ptr 1 0 0 0])),(7,.c (.int .i64 v.length)),(8,.c (.int .i64 i))] [.live (.ints .i64 v),.live (.ints .i64 [l])]
noncomputable def H4 (l:Int) (v:List Int):St:=bA f7.ntmps [] [.live (.ints .i64 v),.live (.ints .i64 [l])]
noncomputable def HA (l:Int) (v:List Int) (i:Int):St:=bA f7.ntmps [(4,.c (.int .i64 i))] [.live (.ints .i64 v),.live (.ints .i64 [l])]
theorem N5 (l:Int) (v:List Int) (i:Int):aH 2 (aA f7 0) (aD f7 0) (aK tt (aB T97) ([]) 2 100 (a6 0 (a7 f7)) (jR l v i) [(0,true),(0,true)])=
  some (.ret,(decide (i<(↑v.length:Int))&&(decide (0≤i)&&(decide (i<(↑v.length:Int))&&(decide (i.toNat<v.length)&&((v.getD i.toNat 0==l)&&true))))),[],HA l v (i)):=by kernel_rfl
theorem N6 (l:Int) (v:List Int) (i:Int):aH 2 (aA f7 0) (aD f7 0) (aK tt (aB T97) ([]) 2 100 (a6 0 (a7 f7)) (jR l v i) [(0,true),(0,false)])=
  some (.normal,(decide (i<(↑v.length:Int))&&(decide (0≤i)&&(decide (i<(↑v.length:Int))&&(decide (i.toNat<v.length)&&((!v.getD i.toNat 0==l)&&true))))),[],jR l v (IntKind.i64.wrap (i+1))):=by kernel_rfl
theorem N7 (l:Int) (v:List Int) (i:Int):aH 2 (aA f7 0) (aD f7 0) (aK tt (aB T97) ([]) 2 100 (a6 0 (a7 f7)) (jR l v i) [(0,false)])=
  some (.exit 0,((!decide (i<(↑v.length:Int)))&&true),[],H4 l v):=by kernel_rfl
noncomputable def P6 (l:Int) (v:List Int):Option Nat→St
 |some j=>HA l v j
 |none=>H4 l v
theorem XD (l:Int) (v:List Int) (hl:v.length≤274877906944):
  aW Tryz.prog 2 (.block 0 (.loop (a6 0 (a7 f7)))) (jR l v 0) fun e t=>e=r9 (dV (fun x=>x==l) v)∧t=P6 l v (dV (fun x=>x==l) v):=by
 refine aW.roundsR hT t97 bM (m:=2) (id:=0) (body:=a6 0 (a7 f7)) (α:=Nat)
  (fun i=>i≤v.length∧dE (fun x=>x==l) v (v.length-i) i=dV (fun x=>x==l) v) (fun i=>jR l v i) (fun i=>v.length-i) (aA f7 0) (aD f7 0)
  (fun _=>r9 (dV (fun x=>x==l) v)) (fun _=>P6 l v (dV (fun x=>x==l) v)) (fun _=>[]) (fun _ _=>aF.nil) (fun i hx=> ?_) 0 ⟨by simp,rfl⟩
 obtain⟨h1,h3⟩:=hx
 by_cases hi:i<v.length
 ·have hk:v.length-i=(v.length-(i+1))+1:=by omega
  rw[hk]at h3
  simp only[dE]at h3
  cases hz:(fun x=>x==l) (v.getD i 0)with
  |false=>
   dsimp only at hz
   rw[hz]at h3
   have e:=N6 l v i
   rw[aE (by omega) (by omega),Int.toNat_natCast]at e
   refine⟨_,_,_,_,_,_,e, ?_,by simp,.inl ⟨rfl,i+1,⟨by omega,by simpa using h3⟩,by omega,rfl,rfl,rfl⟩⟩
   simp only[hz,Bool.not_false,Bool.true_and,Bool.and_true,Bool.and_eq_true,decide_eq_true_eq]
   omega
  |true=>
   dsimp only at hz
   rw[hz]at h3
   simp only[cond_true]at h3
   have e:=N5 l v i
   rw[Int.toNat_natCast]at e
   refine⟨_,_,_,_,_,_,e, ?_,by simp,.inr (.inr ⟨by simp,by simp, ?_, ?_⟩)⟩
   ·simp only[hz,Bool.true_and,Bool.and_true,Bool.and_eq_true,decide_eq_true_eq]
    omega
   ·rw[←h3];rfl
   ·rw[←h3];rfl
 ·have hz:v.length-i=0:=by omega
  rw[hz]at h3
  simp only[dE]at h3
  exact⟨_,_,_,_,_,_,N7 l v i,by simp;omega,by simp,.inr (.inl ⟨rfl,by rw[←h3];rfl,by rw[←h3];rfl⟩)⟩
def BA:aQ:=fun args h=>
 match args,h with
 |[.c (.sl 0 0 n 1 none),.c (.fn 162 [.ptr 1 0 0 0])],[.live (.ints .i64 v),.live (.ints .i64 [l])]=>
  some (.c (.int .i64 (cV (fun x=>x==l) v)),[.live (.ints .i64 v),.live (.ints .i64 [l])],[decide (v.length≤274877906944),decide (v.length=n)])
 |_,_=>none
theorem OJ (l:Int) (v:List Int):aG tt (aB T97) ([(0,⟨aA f7 0,jR l v 0,.normal,H4 l v⟩)]) 100 f7 [.c (.sl 0 0 v.length 1 none),.c (.fn 162 [.ptr 1 0 0 0])] [.live (.ints .i64 v),.live (.ints .i64 [l])] []=
  some ⟨.c (.int .i64 (-1)),[.live (.ints .i64 v),.live (.ints .i64 [l])],true,[jR l v 0=jR l v 0]⟩:=by kernel_rfl
theorem OM (l:Int) (v:List Int) (j:Nat):aG tt (aB T97) ([(0,⟨aA f7 0,jR l v 0,.ret,HA l v j⟩)]) 100 f7 [.c (.sl 0 0 v.length 1 none),.c (.fn 162 [.ptr 1 0 0 0])] [.live (.ints .i64 v),.live (.ints .i64 [l])] []=
  some ⟨.c (.int .i64 (↑j:Int)),[.live (.ints .i64 v),.live (.ints .i64 [l])],true,[jR l v 0=jR l v 0]⟩:=by kernel_rfl
theorem XZ:aS Tryz.prog 176 BA:=by
 intro args h res h' o he ho
 unfold BA at he
 split at he
 case h_2=>cases he
 rename_i n v l
 simp only[Option.some.injEq,Prod.mk.injEq]at he
 obtain⟨rfl,rfl,rfl⟩:=he
 simp only[List.mem_cons,List.not_mem_nil,or_false,forall_eq_or_imp,forall_eq,decide_eq_true_eq]at ho
 obtain⟨o1,o2⟩:=ho
 subst o2
 have g:=XD l v o1
 unfold cV
 cases hx:dV (fun x=>x==l) v with
 |none=>
  rw[hx]at g
  exact a5 t97 (fn:=f7) (by kernel_rfl) (by kernel_rfl) (OJ l v) rfl (by simp) (fun cc hc=>aF.cons (c:=cc) (by cases hc;kernel_rfl) (by cases hc;exact g) aF.nil)
 |some j=>
  rw[hx]at g
  exact a5 t97 (fn:=f7) (by kernel_rfl) (by kernel_rfl) (OM l v j) rfl (by simp) (fun cc hc=>aF.cons (c:=cc) (by cases hc;kernel_rfl) (by cases hc;exact g) aF.nil)
noncomputable def T98:List bF:=[⟨176,[0,1],BA⟩]++T97
theorem e98:a8 Tryz.prog T98:=by
 refine a8.append ?_ e97
 intro e he
 simp only[List.mem_cons,List.not_mem_nil,or_false]at he
 subst he;exact XZ
theorem t98:bN Tryz.prog (aB T98):=aP e98
noncomputable abbrev fT:=Tryz.f154
noncomputable def lO (l:Int) (n:Nat) (v:List Int) (i j:Int):St:=
 bA fT.ntmps [(0,.c (.sl 0 0 n 1 none)),(1,.c (.fn 162 [.ptr 1 0 0 0])),(5,.c (.int .i64 i)),(6,.c (.int .i64 j))]
  [.live (.ints .i64 v),.live (.ints .i64 [l])]
noncomputable def DI (l:Int) (n:Nat) (v:List Int) (i:Int):St:=
 bA fT.ntmps [(0,.c (.sl 0 0 n 1 none)),(5,.c (.int .i64 i))]
  [.live (.ints .i64 v),.live (.ints .i64 [l])]
theorem MZ (l:Int) (n:Nat) (v:List Int) (i j:Int):aH 2 (aA fT 0) (aD fT 0) (aK tt (aB T98) ([]) 2 100 (a6 0 (a7 fT)) (lO l n v i j) [(0,true),(0,true)])=
  some (.normal,(decide (j<(↑n:Int))&&(decide (0≤j)&&(decide (j<(↑n:Int))&&(decide (j.toNat<v.length)&&((!v.getD j.toNat 0==l)&&(decide (0≤i)&&(decide (i<(↑n:Int))&&((decide (i.toNat<v.length))&&true)))))))),[],lO l n (v.set i.toNat (v.getD j.toNat 0)) (IntKind.i64.wrap (i+1)) (IntKind.i64.wrap (j+1))):=by kernel_rfl
theorem N0 (l:Int) (n:Nat) (v:List Int) (i j:Int):aH 2 (aA fT 0) (aD fT 0) (aK tt (aB T98) ([]) 2 100 (a6 0 (a7 fT)) (lO l n v i j) [(0,true),(0,false)])=
  some (.normal,(decide (j<(↑n:Int))&&(decide (0≤j)&&(decide (j<(↑n:Int))&&(decide (j.toNat<v.length)&&((!!v.getD j.toNat 0==l)&&true))))),[],lO l n (v) (i) (IntKind.i64.wrap (j+1))):=by kernel_rfl
theorem N1 (l:Int) (n:Nat) (v:List Int) (i j:Int):aH 2 (aA fT 0) (aD fT 0) (aK tt (aB T98) ([]) 2 100 (a6 0 (a7 fT)) (lO l n v i j) [(0,false)])=
  some (.exit 0,((!decide (j<(↑n:Int)))&&true),[],DI l n (v) (i)):=by kernel_rfl
theorem OG (l:Int) (n:Nat) (v:List Int):aG tt (aB T98) ([]) 100 fT [.c (.sl 0 0 n 1 none),.c (.fn 162 [.ptr 1 0 0 0])] [.live (.ints .i64 v),.live (.ints .i64 [l])] [(0,true)]=
  some ⟨.c (.sl 0 0 n 1 none),[.live (.ints .i64 v),.live (.ints .i64 [l])],(decide (v.length≤274877906944)&&(decide (v.length=n)&&((cV (fun x=>x==l) v== -1)&&true))),[]⟩:=by kernel_rfl
theorem OF (l:Int) (n:Nat) (v v':List Int) (i:Int):aG tt (aB T98) ([(0,⟨aA fT 0,lO l n v (cV (fun x=>x==l) v) (IntKind.i64.wrap (cV (fun x=>x==l) v+1)),.normal,DI l n v' i⟩)]) 100 fT [.c (.sl 0 0 n 1 none),.c (.fn 162 [.ptr 1 0 0 0])] [.live (.ints .i64 v),.live (.ints .i64 [l])] [(0,false)]=
  some ⟨.c (.sl 0 0 i.toNat 1 none),[.live (.ints .i64 (List.take i.toNat v'++(List.replicate (n-i.toNat) 0++List.drop (i.toNat+(n-i.toNat)) v'))),.live (.ints .i64 [l])],(decide (v.length≤274877906944)&&(decide (v.length=n)&&((!cV (fun x=>x==l) v== -1)&&(decide (0≤i)&&(decide (i≤(↑n:Int))&&(decide (i.toNat+(n-i.toNat)≤v'.length)&&(decide (0≤i)&&((decide (i≤(↑n:Int)))&&true)))))))),[lO l n v (cV (fun x=>x==l) v) (IntKind.i64.wrap (cV (fun x=>x==l) v+1))=lO l n v (cV (fun x=>x==l) v) (IntKind.i64.wrap (cV (fun x=>x==l) v+1))]⟩:=by kernel_rfl
theorem XB (l:Int) (v:List Int) (i0:Nat) (hl:v.length≤274877906944) (h0:dV (fun x=>x==l) v=some i0):
  aW Tryz.prog 2 (.block 0 (.loop (a6 0 (a7 fT)))) (lO l v.length v i0 (i0+1:Nat)) fun e t=>e=.normal∧
   t=DI l v.length (bP (n9 (fun x=>x==l) (i0+1)) (v.length-(i0+1)) 0 (v,i0)).1 (bP (n9 (fun x=>x==l) (i0+1)) (v.length-(i0+1)) 0 (v,i0)).2:=by
 obtain⟨g1,g2⟩:=l0 h0
 refine aW.count hT t98 bM (v.length-(i0+1)) (B2 (fun x=>x==l) v (i0+1)) (fun t s=>lO l v.length s.1 s.2 (i0+1+t:Nat)) (fun s=>DI l v.length s.1 s.2) (n9 (fun x=>x==l) (i0+1)) (aA fT 0) (aD fT 0)
  (fun _ _=>[]) (fun _ _ _ _=>aF.nil) (fun t s ht h=>⟨iR h (by omega), ?_⟩) (fun s h=> ?_) (v,i0) g2
 ·have hn:=iR h (by omega)
  obtain⟨d1,d2,d3,d4⟩:=h
  have hx:=d3 (i0+1+t) (Nat.le_refl _)
  unfold n9
  cases hq:s.1.getD (i0+1+t) 0==l with
  |true=>
   have e:=N0 l v.length s.1 s.2 (i0+1+t:Nat)
   rw[aE (by omega) (by omega),Int.toNat_natCast]at e
   dsimp only
   rw[hq]
   refine⟨_,_,⟨_,_,e, ?_,by simp⟩⟩
   simp only[hq,Bool.not_true,Bool.not_false,Bool.true_and,Bool.and_true,Bool.and_eq_true,decide_eq_true_eq]
   omega
  |false=>
   have e:=MZ l v.length s.1 s.2 (i0+1+t:Nat)
   rw[aE (i:=((i0+1+t:Nat):Int)+1) (by omega) (by omega),aE (i:=(s.2:Int)+1) (by omega) (by omega),Int.toNat_natCast,Int.toNat_natCast]at e
   dsimp only
   rw[hq]
   refine⟨_,_,⟨_,_,e, ?_,by simp⟩⟩
   simp only[hq,Bool.not_false,Bool.true_and,Bool.and_true,Bool.and_eq_true,decide_eq_true_eq]
   omega
 ·rw[show i0+1+(v.length-(i0+1))=v.length from by omega]
  exact⟨_,_,⟨_,_,N1 l v.length s.1 s.2 v.length,by simp,by simp⟩⟩
def B7:aQ:=fun args h=>
 match args,h with
 |[.c (.sl 0 0 n 1 none),.c (.fn 162 [.ptr 1 0 0 0])],[.live (.ints .i64 v),.live (.ints .i64 [l])]=>
  some (.c (.sl 0 0 (v.filter fun x=> !(x==l)).length 1 none),[.live (.ints .i64 (v.filter fun x=> !(x==l))),.live (.ints .i64 [l])],[decide (v.length≤274877906944),decide (v.length=n)])
 |_,_=>none
theorem XX:aS Tryz.prog 154 B7:=by
 intro args h res h' o he ho
 unfold B7 at he
 split at he
 case h_2=>cases he
 rename_i n v l
 simp only[Option.some.injEq,Prod.mk.injEq]at he
 obtain⟨rfl,rfl,rfl⟩:=he
 simp only[List.mem_cons,List.not_mem_nil,or_false,forall_eq_or_imp,forall_eq,decide_eq_true_eq]at ho
 obtain⟨o1,o2⟩:=ho
 subst o2
 cases hx:dV (fun x=>x==l) v with
 |none=>
  have hL:cV (fun x=>x==l) v= -1:=by unfold cV;rw[hx]
  have hf:(v.filter fun x=> !(x==l))=v:=by
   have:=gT (q:=(fun x=>x==l)) (v:=v) v.length (Nat.le_refl _) (fun k hk=>jH hx k (by omega) (by omega))
   rw[List.take_length]at this;exact this
  rw[hf]
  exact a5 t98 (fn:=fT) (by kernel_rfl) (by kernel_rfl) (OG l v.length v) (by rw[hL];simp[o1]) (by simp) (fun c _=>aF.nil)
 |some i0=>
  have hL:cV (fun x=>x==l) v=i0:=by unfold cV;rw[hx]
  obtain⟨g1,g2⟩:=l0 hx
  have g:=XB l v i0 o1 hx
  have fin:=bH (step:=n9 (fun x=>x==l) (i0+1)) (B2 (fun x=>x==l) v (i0+1)) (v.length-(i0+1)) (v,i0) g2 fun t s ht h=>iR h (by omega)
  generalize bP (n9 (fun x=>x==l) (i0+1)) (v.length-(i0+1)) 0 (v,i0)=s at g fin
  obtain⟨d1,d2,d3,d4⟩:=fin
  rw[show i0+1+(v.length-(i0+1))=v.length from by omega]at d2 d4
  rw[List.take_length]at d4
  have hlen:(v.filter fun x=> !(x==l)).length=s.2:=by rw[←d4,List.length_take];omega
  have e:=OF l v.length v s.1 s.2
  rw[hL]at e
  have hw:IntKind.i64.wrap ((i0:Int)+1)=(i0+1:Nat):=by rw[aE (by omega) (by omega)];rfl
  rw[hw,Int.toNat_natCast]at e
  have mm:=a5 (f:=154) t98 (fn:=fT) (by kernel_rfl) (by kernel_rfl) e (by
    have h3:(((i0:Int))== -1)=false:=by
     rw[beq_eq_false_iff_ne];omega
    simp only[h3,o1,Bool.not_false,Bool.true_and,Bool.and_true,Bool.and_eq_true,decide_eq_true_eq,true_and,and_true]
    omega) (by simp) (fun cc hc=>aF.cons (c:=cc) (by cases hc;kernel_rfl) (by cases hc;exact g) aF.nil)
  rw[hlen]
  refine mm.slots ⟨?_,cA.refl _,trivial⟩
  have h6:(List.take s.2 s.1++(List.replicate (v.length-s.2) 0++List.drop (s.2+(v.length-s.2)) s.1)).take s.2=v.filter fun x=> !(x==l):=by
   rw[List.take_append_of_le_length (by rw[List.length_take];omega),List.take_take,Nat.min_self];exact d4
  rw[←h6]
  exact cA.take _ _ _
end
end Go.Proofs.YthapjdpkelihiaaGreat.Am
