/- DERIVED. Part 21 of the proof: P22, Am42, C102, P12, P13, P14, P15, P16, P17, P18, P19, P23, C103, C89, C104. No statement of the program is proved here. -/
import Derived.Test.YthapjdpkelihiaaGreatX20
set_option linter.unusedSimpArgs false
set_option linter.unusedVariables false
set_option linter.unusedSectionVars false
namespace Go.Proofs.YthapjdpkelihiaaGreat.Am
section
def chL (p:List Int→Bool):List Int→Nat→List Int→Option (List Int)
 |_,0,f=>bif p f then some f else none
 |[],_+1,_=>none
 |x::r,m+1,f=>match chL p r m (f++[x])with
  |some y=>some y
  |none=>chL p r (m+1) f
theorem uY (p:List Int→Bool) (L:List Int) (f:List Int):chL p L 0 f=bif p f then some f else none:=by cases L<;>rfl
theorem L8 (sh:List Int) {j:Nat} (h:j+1≤sh.length):sh.drop (sh.length-(j+1))=sh.getD (sh.length-(j+1)) 0::sh.drop (sh.length-j):=by
 have hlt:sh.length-(j+1)<sh.length:=by omega
 rw[List.drop_eq_getElem_cons hlt,List.getD_eq_getElem?_getD,List.getElem?_eq_getElem hlt,show sh.length-(j+1)+1=sh.length-j from by omega]
 rfl
theorem PX (p:List Int→Bool) (sh:List Int): ∀(j m:Nat) (f:List Int),j≤sh.length→ch p sh j m f=chL p (sh.drop (sh.length-j)) m f
 |j,0,f,_=>by rw[VX,uY]
 |0,m+1,f,_=>by rw[Nat.sub_zero,List.drop_length];rfl
 |j+1,m+1,f,h=>by
  rw[L8 sh h]
  show(match ch p sh j m (f++[sh.getD (sh.length-(j+1)) 0])with|some x=>some x|none=>ch p sh j (m+1) f)=(match chL p (sh.drop (sh.length-j)) m (f++[sh.getD (sh.length-(j+1)) 0])with|some x=>some x|none=>chL p (sh.drop (sh.length-j)) (m+1) f)
  rw[PX p sh j m _ (by omega),PX p sh j (m+1) f (by omega)]
def frQ (q:Nat→Bool):Nat→List Int
 |0=>[]
 |j+1=>bif q (7-j)then((7-j:Nat):Int)::frQ q j else frQ q j
theorem NL (p:List Int→Bool) (q:Nat→Bool): ∀(j m:Nat) (f:List Int),sr p q j m f=chL p (frQ q j) m f
 |j,0,f=>by rw[a0C,uY]
 |0,m+1,f=>rfl
 |j+1,m+1,f=>by
  show(bif q (7-j)then(match sr p q j m (f++[((7-j:Nat):Int)])with|some x=>some x|none=>sr p q j (m+1) f)else sr p q j (m+1) f)=_
  rw[NL p q j m _,NL p q j (m+1) f]
  cases hq:q (7-j)with
  |false=>simp only[frQ,hq,cond_false]
  |true=>simp only[frQ,hq,cond_true,chL]
theorem mT {p:List Int→Bool}: ∀ {L:List Int} {m:Nat} {f:List Int},chL p L m f=none→ ∀g,g.Sublist L→g.length=m→p (f++g)=false
 |L,0,f,h,g,_,hg=>by
  rw[uY]at h
  obtain rfl:g=[]:=List.eq_nil_of_length_eq_zero hg
  rw[List.append_nil]
  cases hp:p f with
  |false=>rfl
  |true=>rw[hp]at h;cases h
 |[],m+1,f,h,g,hs,hg=>by cases hs;cases hg
 |x::r,m+1,f,h,g,hs,hg=>by
  simp only[chL]at h
  cases h1:chL p r m (f++[x])with
  |some y=>rw[h1]at h;cases h
  |none=>
   rw[h1]at h
   cases hs with
   |cons _ hs=>exact mT h g hs hg
   |cons_cons _ hs=>
    have:=mT h1 _ hs (by simpa using hg)
    simpa using this
theorem sD {p:List Int→Bool}: ∀ {L:List Int} {m:Nat} {f y:List Int},chL p L m f=some y→ ∃g,g.Sublist L∧g.length=m∧y=f++g∧p y=true
 |L,0,f,y,h=>by
  rw[uY]at h
  cases hp:p f with
  |false=>rw[hp]at h;cases h
  |true=>
   rw[hp,cond_true]at h
   injection h with h;subst h
   exact⟨[],List.nil_sublist _,rfl,(List.append_nil _).symm,hp⟩
 |[],m+1,f,y,h=>by cases h
 |x::r,m+1,f,y,h=>by
  simp only[chL]at h
  cases h1:chL p r m (f++[x])with
  |some z=>
   rw[h1]at h
   injection h with h;subst h
   obtain⟨g,g1,g2,g3,g4⟩:=sD h1
   exact⟨x::g,g1.cons_cons x,by simp[g2],by simp[g3],g4⟩
  |none=>
   rw[h1]at h
   obtain⟨g,g1,g2,g3,g4⟩:=sD h
   exact⟨g,g1.cons x,g2,g3,g4⟩
theorem oP {p p':List Int→Bool}: ∀ {L:List Int} {m:Nat} {f:List Int},(∀g,g.Sublist L→g.length=m→p (f++g)=p' (f++g))→chL p L m f=chL p' L m f
 |L,0,f,h=>by
  have:=h [] (List.nil_sublist _) rfl
  rw[List.append_nil]at this
  rw[uY,uY,this]
 |[],m+1,f,h=>rfl
 |x::r,m+1,f,h=>by
  simp only[chL]
  rw[oP (L:=r) (m:=m) (f:=f++[x]) fun g hs hg=>by simpa using h (x::g) (hs.cons_cons x) (by simp[hg]),oP (L:=r) (m:=m+1) (f:=f) fun g hs hg=>h g (hs.cons x) hg]
theorem oM {t:List Int→Bool}: ∀ {j m:Nat} {f:List Int},fH t j m f=true→ ∀g,g.Sublist (frQ (fun _=>true) j)→g.length=m→t (f++g)=true
 |j,0,f,h,g,_,hg=>by
  rw[H3]at h
  obtain rfl:g=[]:=List.eq_nil_of_length_eq_zero hg
  rwa[List.append_nil]
 |0,m+1,f,h,g,hs,hg=>by cases hs;cases hg
 |j+1,m+1,f,h,g,hs,hg=>by
  simp only[fH,Bool.and_eq_true,rpS]at h
  simp only[frQ,cond_true]at hs
  cases hs with
  |cons _ hs=>exact oM h.2 g hs hg
  |cons_cons _ hs=>
   have:=oM h.1 _ hs (by simpa using hg)
   simpa using this
theorem nA (q:Nat→Bool): ∀j,(frQ q j).Sublist (frQ (fun _=>true) j)
 |0=>List.Sublist.refl _
 |j+1=>by
  simp only[frQ,cond_true]
  cases q (7-j)with
  |false=>exact(nA q j).cons _
  |true=>exact(nA q j).cons_cons _
theorem rC {q:Nat→Bool}: ∀ {j:Nat},j≤8→ ∀ {x:Int},x∈frQ q j→ ∃i:Nat,i<8∧x=(i:Int)∧q i=true
 |0,_,x,h=>by cases h
 |j+1,hj,x,h=>by
  simp only[frQ]at h
  cases hq:q (7-j)with
  |false=>rw[hq]at h;exact rC (by omega) h
  |true=>
   rw[hq,cond_true]at h
   rcases List.mem_cons.1 h with rfl|h
   ·exact⟨7-j,by omega,rfl,hq⟩
   ·exact rC (by omega) h
theorem zI {x:Int}: ∀ {v:List Int},iN x v=true↔x∈v
 |[]=>by simp[iN]
 |y::r=>by simp[iN,zI]
theorem A2: ∀ {a b:List Int},A1 a b=true→a=b
 |[],[],_=>rfl
 |x::r,y::s,h=>by
  simp only[A1,Bool.and_eq_true,rpS,beq_iff_eq]at h
  rw[h.1,A2 h.2]
 |[],_::_,h=>by cases h
 |_::_,[],h=>by cases h
theorem uV {f:Nat→Bool}: ∀ {n:Nat},H4 f n=true→ ∃i,i<n∧f i=true
 |0,h=>by cases h
 |n+1,h=>by
  simp only[H4,Bool.or_eq_true]at h
  rcases h with h|h
  ·exact⟨n,by omega,h⟩
  ·obtain⟨i,hi,e⟩:=uV h
   exact⟨i,by omega,e⟩
theorem NE {k l:Int} (hk:bet k 1 2=true) (hl:bet l 0 7=true):slB k l []=false:=by
 have h:c7 (fun l=> !slB 1 (l:Int) []&& !slB 2 (l:Int) []) 8=true:=by kernel_rfl
 have h1:=aX.1 hk
 have h2:=aX.1 hl
 obtain⟨l,rfl⟩: ∃l':Nat,l=(l':Int):=⟨l.toNat,by omega⟩
 have:=aV h l (by omega)
 simp only[Bool.and_eq_true,rpS,Bool.not_eq_true']at this
 rcases(by omega:k=1∨k=2)with rfl|rfl
 ·exact this.1
 ·exact this.2
theorem xR {k l:Int} (hk:bet k 1 2=true) (hl:bet l 0 7=true) {m:Nat} (hm:m<4) {g:List Int} (hs:g.Sublist (frQ (fun _=>true) 8)) (hg:g.length=m+1) (hn:l∉g):pl1 k l g=true:=by
 have:=oM (XP hk hm) g hs hg
 rw[List.nil_append,R1]at this
 simp only[Bool.and_eq_true,rpS,Bool.or_eq_true,zI]at this
 obtain⟨p0,p1,p2,p3,p4,p5,p6,p7⟩:=this
 have h2:=aX.1 hl
 rcases(by omega:l=0∨l=1∨l=2∨l=3∨l=4∨l=5∨l=6∨l=7)with rfl|rfl|rfl|rfl|rfl|rfl|rfl|rfl
 ·exact p0.resolve_left hn
 ·exact p1.resolve_left hn
 ·exact p2.resolve_left hn
 ·exact p3.resolve_left hn
 ·exact p4.resolve_left hn
 ·exact p5.resolve_left hn
 ·exact p6.resolve_left hn
 ·exact p7.resolve_left hn
def ofI (k l:Int) (sh:List Int):Nat→Option (List Int)
 |0=>none
 |j+1=>match chR k l sh 0 (4-j) []with
  |some y=>some y
  |none=>ofI k l sh j
section
variable {k l : Int} (hk : bet k 1 2 = true) (hl : bet l 0 7 = true) {c : List Bool}
include hk hl
theorem CF {g:List Int} (hs:g.Sublist (frQ (srQ l c) 8)):l∉g:=fun h=>by
 obtain⟨i,h1,h2,h3⟩:=rC (by omega) (hs.subset h)
 simp only[srQ,h2,beq_self_eq_true,Bool.not_true,Bool.and_false]at h3
 cases h3
theorem rH {m:Nat} (hm:m<4) (h:m=0∨chL (slB k l) (frQ (srQ l c) 8) m []=none):chL (plB k l) (frQ (srQ l c) 8) (m+1) []=chL (slB k l) (frQ (srQ l c) 8) (m+1) []:=by
 refine oP fun g hs hg=> ?_
 rw[List.nil_append]
 have:=xR hk hl hm (hs.trans (nA _ _)) hg (CF hk hl hs)
 unfold pl1 at this
 have this:=(Bool.and_eq_true_iff.1 this).2
 cases h1:plB k l g with
 |true=>
  rw[h1,cond_true]at this
  simp only[Bool.and_eq_true,rpS]at this
  exact this.1.symm
 |false=>
  rw[h1,cond_false]at this
  cases h2:slB k l g with
  |false=>rfl
  |true=>
   rw[h2,cond_true]at this
   obtain⟨i,hi,e⟩:=uV this
   have e:=(Bool.and_eq_true_iff.1 e).2
   have hle:(g.eraseIdx i).length=m:=by rw[List.length_eraseIdx_of_lt hi];omega
   rcases h with rfl|h
   ·rw[List.eq_nil_of_length_eq_zero hle,NE hk hl]at e;cases e
   ·have:=mT h (g.eraseIdx i) ((List.eraseIdx_sublist g i).trans hs) hle
    rw[List.nil_append,e]at this;cases this
theorem QY {sh:List Int} (hc:frQ (srQ l c) 8=sh):ofI k l sh 4=ofR k l c 4∧ ∀y,ofR k l c 4=some y→y.Sublist sh∧y.length≤4∧1≤y.length∧plB k l y=true∧pl1 k l y=true:=by
 subst hc
 have e1: ∀m,chR k l (frQ (srQ l c) 8) 0 m []=chL (plB k l) (frQ (srQ l c) 8) m []:=fun m=>by
  unfold chR
  rw[PX _ _ _ _ _ (Nat.le_refl _|>fun h=>by omega),show(frQ (srQ l c) 8).length-((frQ (srQ l c) 8).length-0)=0 from by omega,List.drop_zero]
 have e2: ∀m,shS k l c 0 m []=chL (slB k l) (frQ (srQ l c) 8) m []:=fun m=>by rw[tN,NL]
 have fin: ∀m y,m<4→chL (plB k l) (frQ (srQ l c) 8) (m+1) []=some y→y.Sublist (frQ (srQ l c) 8)∧y.length≤4∧1≤y.length∧plB k l y=true∧pl1 k l y=true:=fun m y hm h=>by
  obtain⟨g,g1,g2,g3,g4⟩:=sD h
  rw[List.nil_append]at g3
  subst g3
  exact⟨g1,by omega,by omega,g4,xR hk hl hm (g1.trans (nA _ _)) g2 (CF hk hl g1)⟩
 have s1:=rH (c:=c) hk hl (m:=0) (by omega) (.inl rfl)
 simp only[ofI,ofR,e1,e2,Nat.sub_zero,Nat.reduceSub]
 cases h1:chL (slB k l) (frQ (srQ l c) 8) 1 []with
 |some y=>rw[h1]at s1;rw[s1];exact⟨rfl,fun z hz=>fin 0 z (by omega) (by rw[s1];exact hz)⟩
 |none=>
  rw[h1]at s1;rw[s1]
  have s2:=rH (c:=c) hk hl (m:=1) (by omega) (.inr h1)
  cases h2:chL (slB k l) (frQ (srQ l c) 8) 2 []with
  |some y=>rw[h2]at s2;rw[s2];exact⟨rfl,fun z hz=>fin 1 z (by omega) (by rw[s2];exact hz)⟩
  |none=>
   rw[h2]at s2;rw[s2]
   have s3:=rH (c:=c) hk hl (m:=2) (by omega) (.inr h2)
   cases h3:chL (slB k l) (frQ (srQ l c) 8) 3 []with
   |some y=>rw[h3]at s3;rw[s3];exact⟨rfl,fun z hz=>fin 2 z (by omega) (by rw[s3];exact hz)⟩
   |none=>
    rw[h3]at s3;rw[s3]
    have s4:=rH (c:=c) hk hl (m:=3) (by omega) (.inr h3)
    cases h4:chL (slB k l) (frQ (srQ l c) 8) 4 []with
    |some y=>rw[h4]at s4;rw[s4];exact⟨rfl,fun z hz=>fin 3 z (by omega) (by rw[s4];exact hz)⟩
    |none=>rw[h4]at s4;rw[s4];exact⟨rfl,fun z hz=>by cases hz⟩
end
end
section
def nilV:aF→aF→Prop
 |x,y=>x=y∨(x=.nils∧ ∃c es cap,y=.view none c 0 es cap∧c.size=0∧ ∀k,cap=some k→k=0)
theorem nilV.sound {X:Nat→Prop} {w:World} {ρ:Rho} {x y:aF} {v:Value} (h:nilV x y) (hx:CR X w ρ x v):CR X w ρ y v:=by
 rcases h with rfl|⟨rfl,c,es,cap,rfl,hz,hc⟩
 ·exact hx
 ·cases hx
  exact .viewNone none c es cap none 0 hz (fun k hk=>(hc k hk).symm) (fun _ h=>by cases h) (fun _=>rfl)
def jN:List aF→List aF→Prop
 |[],[]=>True
 |x::r,y::s=>nilV x y∧jN r s
 |_,_=>False
theorem jN.len: ∀ {l m:List aF},jN l m→l.length=m.length
 |[],[],_=>rfl
 |_::_,_::_,h=>by simp[jN.len h.2]
 |[],_::_,h=>h.elim
 |_::_,[],h=>h.elim
theorem jN.get: ∀ {l m:List aF},jN l m→ ∀i,nilV (l.getD i .any) (m.getD i .any)
 |[],[],_,_=> .inl rfl
 |_::_,_::_,h,0=>h.1
 |_::r,_::s,h,i+1=>by simpa using jN.get h.2 i
 |[],_::_,h,_=>h.elim
 |_::_,[],h,_=>h.elim
theorem c6.nilV {l m:List aF} (h:jN l m):c6 (.live (.cells l)) (.live (.cells m)):=fun X w ρ x hs=>by
 cases x with
 |unborn=>exact hs.elim
 |dead=>exact hs.elim
 |nil=>simp only[dT,Con.size]at hs⊢;rw[←h.len];exact hs
 |row b=>
  obtain⟨cs,ty,h1,h2,h3⟩:=hs
  refine⟨cs,ty,h1,by simp only[Con.size]at h2⊢;rw[←h.len];exact h2,fun q hq=> ?_⟩
  simp only[Con.size]at hq
  have:=h3 q (by simp only[Con.size];rw[h.len];exact hq)
  exact(h.get q).sound this
def qE:AV→AV→Prop
 |.c x,.c y=>nilV x y
 |.agg l,.agg m=>jN l m
 |x,y=>x=y
theorem qE.sound {X:Nat→Prop} {w:World} {ρ:Rho} {x y:AV} {v:Value} (h:qE x y) (hx:AVR X w ρ x v):AVR X w ρ y v:=by
 cases x with
 |c x=>
  cases y with
  |c y=>cases hx with|c _ _ hx=>exact .c _ _ (nilV.sound h hx)
  |_=>exact absurd h (by simp[qE])
 |agg l=>
  cases y with
  |agg m=>cases hx with|agg _ vs hs hx=>exact .agg _ _ (by rw[←jN.len h];exact hs) fun i hi=>(jN.get h i).sound (hx i (by rw[jN.len h];exact hi))
  |_=>exact absurd h (by simp[qE])
 |any=>simp only[qE]at h;subst h;exact hx
 |tup l=>simp only[qE]at h;subst h;exact hx
def qF:List AV→List AV→Prop
 |[],[]=>True
 |x::r,y::s=>qE x y∧qF r s
 |_,_=>False
theorem qF.len: ∀ {l m:List AV},qF l m→l.length=m.length
 |[],[],_=>rfl
 |_::_,_::_,h=>by simp[qF.len h.2]
 |[],_::_,h=>h.elim
 |_::_,[],h=>h.elim
theorem qF.get: ∀ {l m:List AV},qF l m→ ∀i,qE (l.getD i (.tup [])) (m.getD i (.tup []))
 |[],[],_,_=>rfl
 |_::_,_::_,h,0=>h.1
 |_::r,_::s,h,i+1=>by simpa using qF.get h.2 i
 |[],_::_,h,_=>h.elim
 |_::_,[],h,_=>h.elim
theorem bA.nilV {P:Program} {f:FuncId} {args:List AV} {h h':List aW} {l m:List AV} (hm:bA P f args h (.tup l) h') (hl:qF l m):bA P f args h (.tup m) h':=by
 refine⟨hm.1,fun {X w0 ρ0} mm vs hl' hv=> ?_⟩
 refine Calls.mono (hm.2 mm vs hl' hv) ?_
 rintro e w' ⟨v,ρ',rfl,mb,im,m',hx⟩
 refine⟨v,_,rfl,mb,im,m', ?_⟩
 cases hx with
 |tup _ us hus hx=>exact .tup _ us (by rw[←hl.len];exact hus) fun i hi=>(hl.get i).sound (hx i (by rw[hl.len];exact hi))
end
section
noncomputable def T99:List bD:=[⟨154,[0,1],AR⟩]++T98
theorem e99:a6 Tryz.prog T99:=by
 refine a6.append ?_ e98
 intro e he
 simp only[List.mem_cons,List.not_mem_nil,or_false]at he
 subst he;exact X7
theorem t99:bJ Tryz.prog (a9 T99):=aM e99
noncomputable abbrev fCH:=Tryz.f163
theorem a3B (k l many:Int) (ns n1 n2:Nat) (b0:Int) (sh F0 B0:List Int):aD tt (a9 T99) ([]) 100 fCH [.c (.sl 0 0 ns 1 none),.c (.int .i64 many),.c (.fn 164 [.ptr 1 0 0 0,.ptr 2 0 0 0,.ptr 3 0 0 0])] [.live (.ints .i64 sh),.live (.ints .i64 [k]),.live (.ints .i64 [l]),.live (.cells [.int .i64 b0,.view none (.ints .i64 F0) n1 1 none,.view none (.ints .i64 B0) n2 1 none])] []=
  some ⟨.c (.bool (isO (chR k l sh 0 many.toNat []))),[.live (.ints .i64 sh),.live (.ints .i64 [k]),.live (.ints .i64 [l]),.live (.cells [.int .i64 (bif isO (chR k l sh 0 many.toNat [])then l else b0),.view none (.ints .i64 (ogL (chR k l sh 0 many.toNat []) F0)) (ogL (chR k l sh 0 many.toNat []) F0).length 1 none,.view none (.ints .i64 (orB k l (chR k l sh 0 many.toNat []) B0)) (orB k l (chR k l sh 0 many.toNat []) B0).length 1 none])],(decide (0≤many)&&(decide (many≤274877906944)&&(decide (many.toNat<5)&&(bet k 1 2&&(bet l 0 7&&(aK sh&&(decide (n1=F0.length)&&(decide (n2=B0.length)&&(decide (ns=sh.length)&&(decide (sh.length≤8)&&(bet 0 0 (↑sh.length:Int)&&(decide (0≤many)&&((decide (many≤4))&&true))))))))))))),[]⟩:=by kernel_rfl
def chO (k l:Int) (sh:List Int) (many:Int):Option (List Int):=chR k l sh 0 many.toNat []
def OZ:aN:=fun args h=>
 match args,h with
 |[.c (.sl 0 0 ns 1 none),.c (.int .i64 many),.c (.fn 164 [.ptr 1 0 0 0,.ptr 2 0 0 0,.ptr 3 0 0 0])],[.live (.ints .i64 sh),.live (.ints .i64 [k]),.live (.ints .i64 [l]),.live (.cells [.int .i64 b0,.view none (.ints .i64 F0) n1 1 none,.view none (.ints .i64 B0) n2 1 none])]=>
  some (.c (.bool (isO (chO k l sh many))),[.live (.ints .i64 sh),.live (.ints .i64 [k]),.live (.ints .i64 [l]),.live (.cells [.int .i64 (bif isO (chO k l sh many)then l else b0),.view none (.ints .i64 (ogL (chO k l sh many) F0)) (ogL (chO k l sh many) F0).length 1 none,.view none (.ints .i64 (orB k l (chO k l sh many) B0)) (orB k l (chO k l sh many) B0).length 1 none])],[bet k 1 2,bet l 0 7,aK sh,decide (n1=F0.length),decide (n2=B0.length),decide (ns=sh.length),decide (sh.length≤8),bet many 0 4])
 |_,_=>none
theorem mCH:aP Tryz.prog 163 OZ:=by
 intro args h res h' o he ho
 unfold OZ at he
 split at he
 case h_2=>cases he
 rename_i ns many sh k l b0 F0 n1 B0 n2
 simp only[Option.some.injEq,Prod.mk.injEq]at he
 obtain⟨rfl,rfl,rfl⟩:=he
 simp only[List.mem_cons,List.not_mem_nil,or_false,forall_eq_or_imp,forall_eq,decide_eq_true_eq]at ho
 obtain⟨o1,o2,o3,o4,o5,o6,o7,o8⟩:=ho
 have h8:=aX.1 o8
 have hb:bet 0 0 (sh.length:Int)=true:=aX.2 (by omega)
 exact mo t99 (a3B k l many ns n1 n2 b0 sh F0 B0) (by simp only[o1,o2,o3,hb,bS,rpS];omega)
noncomputable def yI:List bD:=[⟨163,[0,2],OZ⟩]++T99
theorem W4:a6 Tryz.prog yI:=by
 refine a6.append ?_ e99
 intro e he
 simp only[List.mem_cons,List.not_mem_nil,or_false]at he
 subst he;exact mCH
theorem TA:bJ Tryz.prog (a9 yI):=aM W4
noncomputable abbrev fPO:=Tryz.f121
noncomputable def hPO (k l:Int) (sh:List Int) (x:List aF):List aW:=[.live (.ints .i64 [k]),.live (.ints .i64 [l]),.live (.cells [.int .i64 0,.nils,.nils]),.live (.ints .i64 sh),.live (.cells x)]
noncomputable def sPO (k l:Int) (n:Nat) (sh:List Int) (x:List aF) (many:Int):St:=aY fPO.ntmps [(3,.c (.ptr 0 0 0 0)),(4,.c (.ptr 1 0 0 0)),(6,.c (.ptr 2 0 0 0)),(8,.c (.sl 3 0 n 1 none)),(9,.c (.ptr 4 0 0 0)),(10,.c (.int .i64 many))] (hPO k l sh x)
noncomputable def IPO (k l:Int) (n:Nat) (sh:List Int) (n1 n2:Nat) (b0:Int) (F0 B0:List Int) (many:Int):St:=sPO k l n sh [.int .i64 b0,.view none (.ints .i64 F0) n1 1 none,.view none (.ints .i64 B0) n2 1 none] many
noncomputable def XPO:St:=aY fPO.ntmps [(6,.c (.ptr 0 0 0 0))] [.live (.cells [.int .i64 0,.nils,.nils])]
noncomputable def YPO (l:Int) (n1 n2:Nat) (F B:List Int):St:=aY fPO.ntmps [(6,.c (.ptr 0 0 0 0)),(7,.c (.bool true))] [.live (.cells [.int .i64 l,.view none (.ints .i64 F) n1 1 none,.view none (.ints .i64 B) n2 1 none])]
theorem a08 (k l:Int) (n:Nat) (sh:List Int) (n1 n2:Nat) (b0:Int) (F0 B0:List Int) (many:Int):aC 0 (a8 fPO 0) (aA fPO 0) (aG tt (a9 yI) ([]) 0 100 (a0 0 (a5 fPO)) (IPO k l n sh n1 n2 b0 F0 B0 many) [(0,true),(0,true)])=
  some (.ret,(decide (many≤4)&&(bet k 1 2&&(bet l 0 7&&(aK sh&&(decide (n1=F0.length)&&(decide (n2=B0.length)&&(decide (n=sh.length)&&(decide (sh.length≤8)&&(bet many 0 4&&((isO (chO k l sh many))&&true)))))))))),[],YPO (bif isO (chO k l sh many)then l else b0) ((ogL (chO k l sh many) F0).length) ((orB k l (chO k l sh many) B0).length) (ogL (chO k l sh many) F0) (orB k l (chO k l sh many) B0)):=by kernel_rfl
theorem a09 (k l:Int) (n:Nat) (sh:List Int) (n1 n2:Nat) (b0:Int) (F0 B0:List Int) (many:Int):aC 0 (a8 fPO 0) (aA fPO 0) (aG tt (a9 yI) ([]) 0 100 (a0 0 (a5 fPO)) (IPO k l n sh n1 n2 b0 F0 B0 many) [(0,true),(0,false)])=
  some (.normal,(decide (many≤4)&&(bet k 1 2&&(bet l 0 7&&(aK sh&&(decide (n1=F0.length)&&(decide (n2=B0.length)&&(decide (n=sh.length)&&(decide (sh.length≤8)&&(bet many 0 4&&((!isO (chO k l sh many))&&true)))))))))),[],IPO k l (n) sh ((ogL (chO k l sh many) F0).length) ((orB k l (chO k l sh many) B0).length) (bif isO (chO k l sh many)then l else b0) (ogL (chO k l sh many) F0) (orB k l (chO k l sh many) B0) (IntKind.i64.wrap (many+1))):=by kernel_rfl
theorem a0A (k l:Int) (n:Nat) (sh:List Int) (n1 n2:Nat) (b0:Int) (F0 B0:List Int) (many:Int):aC 0 (a8 fPO 0) (aA fPO 0) (aG tt (a9 yI) ([]) 0 100 (a0 0 (a5 fPO)) (IPO k l n sh n1 n2 b0 F0 B0 many) [(0,false)])=
  some (.exit 0,((!decide (many≤4))&&true),[],XPO):=by kernel_rfl
theorem a46 (k l:Int) (v:List Int):aD tt (a9 yI) ([(0,⟨a8 fPO 0,sPO k l (v.filter fun x=> !(x==l)).length (v.filter fun x=> !(x==l)) [.int .i64 0,.nils,.nils] 1,.normal,XPO⟩)]) 100 fPO [.c (.int .i64 k),.c (.int .i64 l),.c (.view none (.ints .i64 v) v.length 1 none)] [] []=
  some ⟨.tup [.agg [.int .i64 0,.nils,.nils],.c (.bool false)],[],(rp2 (decide (v.length≤274877906944)) ((decide (v.length=v.length))&&true)),[sPO k l (v.filter fun x=> !(x==l)).length (v.filter fun x=> !(x==l)) [.int .i64 0,.nils,.nils] 1=sPO k l (v.filter fun x=> !(x==l)).length (v.filter fun x=> !(x==l)) [.int .i64 0,.nils,.nils] 1]⟩:=by kernel_rfl
theorem VP (k l:Int) (v:List Int) (l':Int) (n1 n2:Nat) (F B:List Int):aD tt (a9 yI) ([(0,⟨a8 fPO 0,sPO k l (v.filter fun x=> !(x==l)).length (v.filter fun x=> !(x==l)) [.int .i64 0,.nils,.nils] 1,.ret,YPO l' n1 n2 F B⟩)]) 100 fPO [.c (.int .i64 k),.c (.int .i64 l),.c (.view none (.ints .i64 v) v.length 1 none)] [] []=
  some ⟨.tup [.agg [.int .i64 l',.view none (.ints .i64 F) n1 1 none,.view none (.ints .i64 B) n2 1 none],.c (.bool true)],[],(rp2 (decide (v.length≤274877906944)) ((decide (v.length=v.length))&&true)),[sPO k l (v.filter fun x=> !(x==l)).length (v.filter fun x=> !(x==l)) [.int .i64 0,.nils,.nils] 1=sPO k l (v.filter fun x=> !(x==l)).length (v.filter fun x=> !(x==l)) [.int .i64 0,.nils,.nils] 1]⟩:=by kernel_rfl
noncomputable def YPR (k l:Int) (r:Option (List Int)):St:=YPO (bif isO r then l else 0) (ogL r []).length (orB k l r []).length (ogL r []) (orB k l r [])
theorem lPO (k l:Int) (sh:List Int) (hk:bet k 1 2=true) (hl:bet l 0 7=true) (hs:aK sh=true) (h8:sh.length≤8):
  ∀j,j≤4→aS Tryz.prog 0 (.block 0 (.loop (a0 0 (a5 fPO)))) (IPO k l sh.length sh 0 0 0 [] [] ((5-j:Nat):Int)) fun e t=>
   e=(bif isO (ofI k l sh j)then .ret else .normal)∧t=(bif isO (ofI k l sh j)then YPR k l (ofI k l sh j)else XPO):=by
 refine aS.roundsR hT TA bK (m:=0) (id:=0) (body:=a0 0 (a5 fPO)) (α:=Nat) (fun j=>j≤4) (fun j=>IPO k l sh.length sh 0 0 0 [] [] ((5-j:Nat):Int)) (fun j=>j) (a8 fPO 0) (aA fPO 0)
  (fun j=>bif isO (ofI k l sh j)then .ret else .normal) (fun j=>bif isO (ofI k l sh j)then YPR k l (ofI k l sh j)else XPO) (fun _=>[]) (fun _ _=>aI.nil) (fun j hj=> ?_)
 cases j with
 |zero=>exact⟨_,_,_,_,_,_,a0A k l sh.length sh 0 0 0 [] [] ((5:Nat):Int),by simp,by simp,.inr (.inl ⟨rfl,rfl,rfl⟩)⟩
 |succ j=>
  rw[show 5-(j+1)=4-j from by omega]
  have w1:IntKind.i64.wrap (((4-j:Nat):Int)+1)=((5-j:Nat):Int):=by rw[aB (by omega) (by omega)];omega
  have b1:bet ((4-j:Nat):Int) 0 4=true:=aX.2 (by omega)
  have go:ofI k l sh (j+1)=(match chO k l sh ((4-j:Nat):Int)with|some y=>some y|none=>ofI k l sh j):=rfl
  rw[go]
  cases hr:chO k l sh ((4-j:Nat):Int)with
  |some y=>
   have e:=a08 k l sh.length sh 0 0 0 [] [] ((4-j:Nat):Int)
   rw[hr]at e
   refine⟨_,_,_,_,_,_,e, ?_,by simp,.inr (.inr ⟨by simp,by simp,rfl,rfl⟩)⟩
   simp only[hk,hl,hs,b1,hr,isO,Option.isSome_some,List.length_nil,decide_true,bS,rpS]
   omega
  |none=>
   have e:=a09 k l sh.length sh 0 0 0 [] [] ((4-j:Nat):Int)
   rw[w1,hr]at e
   refine⟨_,_,_,_,_,_,e, ?_,by simp,.inl ⟨rfl,j,by omega,Nat.lt_succ_self _,rfl,rfl,rfl⟩⟩
   simp only[hk,hl,hs,b1,hr,isO,Option.isSome_none,List.length_nil,decide_true,bS,rpS]
   omega
def poR (k l:Int) (v:List Int):Option (List Int):=ofI k l (v.filter fun x=> !(x==l)) 4
def PA:aN:=fun args h=>
 match args,h with
 |[.c (.int .i64 k),.c (.int .i64 l),.c (.view _ (.ints .i64 v) n 1 _)],[]=>
  some (.tup [.agg [.int .i64 (bif isO (poR k l v)then l else 0),.view none (.ints .i64 (ogL (poR k l v) [])) (ogL (poR k l v) []).length 1 none,.view none (.ints .i64 (orB k l (poR k l v) [])) (orB k l (poR k l v) []).length 1 none],.c (.bool (isO (poR k l v)))],[],[bet k 1 2,bet l 0 7,aK v,decide (v.length≤8)])
 |_,_=>none
theorem mPO:aT Tryz.prog 121 PA:=by
 intro args h res h' o hnorm he ho
 unfold PA at he
 split at he
 case h_2=>cases he
 rename_i k l nl v n cap
 simp only[Option.some.injEq,Prod.mk.injEq]at he
 obtain⟨rfl,rfl,rfl⟩:=he
 simp only[List.mem_cons,List.not_mem_nil,or_false,forall_eq_or_imp,forall_eq,decide_eq_true_eq]at ho
 obtain⟨o1,o2,o3,o4⟩:=ho
 simp only[bE,AV.norm,bF,aF.norm,Con.size,List.cons.injEq,AV.c.injEq,AV.agg.injEq,aF.view.injEq,aL,true_and,and_true]at hnorm
 obtain⟨rfl,rfl,rfl⟩:=hnorm
 have hs:aK (v.filter fun x=> !(x==l))=true:=by
  simp only[aK,List.all_eq_true]at o3⊢
  exact fun x hx=>o3 x (List.mem_filter.1 hx).1
 have h8:(v.filter fun x=> !(x==l)).length≤8:=Nat.le_trans (List.length_filter_le _ _) o4
 have g:=(lPO k l _ o1 o2 hs h8 4 (Nat.le_refl _)).pre (s:=sPO k l (v.filter fun x=> !(x==l)).length (v.filter fun x=> !(x==l)) [.int .i64 0,.nils,.nils] 1)
  (cT.slots (h:=hPO k l (v.filter fun x=> !(x==l)) [.int .i64 0,.nils,.nils]) (h':=hPO k l (v.filter fun x=> !(x==l)) [.int .i64 0,.view none (.ints .i64 []) 0 1 none,.view none (.ints .i64 []) 0 1 none])
   ⟨c6.refl _,c6.refl _,c6.refl _,c6.refl _,c6.nilV ⟨.inl rfl,.inr ⟨rfl,_,_,_,rfl,rfl,fun _ h=>by cases h⟩,.inr ⟨rfl,_,_,_,rfl,rfl,fun _ h=>by cases h⟩,trivial⟩,trivial⟩)
 have er:poR k l v=ofI k l (v.filter fun x=> !(x==l)) 4:=rfl
 cases hr:poR k l v with
 |some y=>
  rw[←er,hr]at g
  exact mo TA (VP k l v l y.length (plA k l y).length y (plA k l y)) (by simp only[decide_true,bS,rpS];omega) (hlc:=(fun cc hcc=>aI.cons (c:=cc) (by cases hcc;kernel_rfl) (by cases hcc;exact g) aI.nil))
 |none=>
  rw[←er,hr]at g
  have m:=mo (f:=121) TA (a46 k l v) (by simp only[decide_true,bS,rpS];omega) (hlc:=(fun cc hcc=>aI.cons (c:=cc) (by cases hcc;kernel_rfl) (by cases hcc;exact g) aI.nil))
  exact m.nilV ⟨⟨.inl rfl,.inr ⟨rfl,_,_,_,rfl,rfl,fun _ h=>by cases h⟩,.inr ⟨rfl,_,_,_,rfl,rfl,fun _ h=>by cases h⟩,trivial⟩,.inl rfl,trivial⟩
end
section
def PK.rD (x:PK):List Int:=krD x.k x.a x.b x.c x.on x.kd x.d x.vs
def PK.rB (x:PK):Bool:=krB x.k x.a x.b x.c x.on x.kd x.d x.vs
theorem PK.kok {x:PK} (h:x.ok=true):bC x.k x.a x.b x.c x.on x.kd x.d x.vs=true:=h
theorem JE {x:PK} (h:x.ok=true):x.rB=true:=by
 unfold PK.rB krB
 rw[x.kok h,cond_true]
 cases ho:x.on with
 |true=>rfl
 |false=>rw[cond_false];exact(x.offK h ho).rd
theorem JG {x:PK} (h:x.ok=true) (ho:x.on=true):x.rD=x.d:=by
 unfold PK.rD krD
 rw[x.kok h,cond_true,ho];rfl
theorem JF {x:PK} (h:x.ok=true) (ho:x.on=false):x.rD=rdD x.k x.a x.b x.c:=by
 unfold PK.rD krD
 rw[x.kok h,cond_true,ho,cond_false]
end
section
end
section
theorem a4C {k:Int} {w v:List Int} (hk:bet k 1 2=true) (hv:aK v=true):aE (kK k w v) 4=true:=by
 have h:=tP (w:=w) hk hv
 have g:=fun i=>aO h i
 unfold aE kK
 simp only[a7,List.all_cons,List.all_nil,g,Bool.and_true,rpS,List.length_cons,List.length_nil,Bool.true_and]
 rfl
end
section
theorem W6 {α:Type} {l m:List α} (d:α) (hl:l.length=8) (hm:m.length=8) (h: ∀i,i<8→l.getD i d=m.getD i d):l=m:=by
 apply List.ext_getElem (by omega)
 intro i h1 h2
 have:=h i (by omega)
 rwa[List.getD_eq_getElem?_getD,List.getD_eq_getElem?_getD,List.getElem?_eq_getElem h1,List.getElem?_eq_getElem h2]at this
end
section
structure BT (x y:PK):Prop where
 ok:y.ok=true
 on:y.on=true
 kd:y.kd=x.kd
 d:y.d=x.d
 vs:y.vs=x.vs
theorem BT.rfl' {x:PK} (h:x.ok=true) (ho:x.on=true):BT x x:=⟨h,ho,rfl,rfl,rfl⟩
theorem BT.shR {x y:PK} (S:BT x y) {i:Int} (hi:bet i 0 7=true):BT x (shR y i):=
 ⟨J5 S.ok S.on hi,S.on,S.kd,S.d,S.vs⟩
theorem A5 {x:PK} {i:Int} (h:x.ok=true) (ho:x.on=true) (hi:bet i 0 7=true):BT x (shR x i)∧(shR x i).rB=true∧(shR x i).rD=x.rD∧x.rD=x.d∧(shR x i).a.getD i.toNat 0=(fT x.kd x.d).getD i.toNat 0∧(shR x i).b.getD i.toNat 0=x.vs∧(shR x i).c.getD i.toNat false=true∧
  ∀j,j<8→j≠i.toNat→(shR x i).a.getD j 0=x.a.getD j 0∧(shR x i).b.getD j 0=x.b.getD j 0∧(shR x i).c.getD j false=x.c.getD j false:=by
 have S:=(BT.rfl' h ho).shR hi
 have hi':=aX.1 hi
 obtain⟨g4,ga,gb,gc⟩:=l4 h
 have K:=x.onK h ho
 refine⟨S,JE S.ok,by rw[JG S.ok S.on,JG h ho];rfl,JG h ho, ?_, ?_, ?_,fun j hj hn=>⟨?_, ?_, ?_⟩⟩
 ·show(x.a.set _ _).getD _ 0=_
  rw[aU,if_pos ⟨rfl,by omega⟩,j4 K.hd]
 ·show(x.b.set _ _).getD _ 0=_
  rw[aU,if_pos ⟨rfl,by omega⟩]
 ·show(x.c.set _ _).getD _ false=_
  rw[d8,if_pos ⟨rfl,by omega⟩]
 ·show(x.a.set _ _).getD _ 0=_
  rw[aU,if_neg (fun e=>hn e.1.symm)]
 ·show(x.b.set _ _).getD _ 0=_
  rw[aU,if_neg (fun e=>hn e.1.symm)]
 ·show(x.c.set _ _).getD _ false=_
  rw[d8,if_neg (fun e=>hn e.1.symm)]
end
section
end
section
end
section
theorem FB {y:PK} {i:Int} (h:y.ok=true) (ho:y.on=true) (hi:bet i 0 7=true):pI y i=true:=by
 unfold pI;rw[h,hi,ho];rfl
end
section
theorem vB (l:Int) (c:List Bool): ∀j,j≤8→frQ (srQ l c) j=(dY c j (8-j)).filter fun x=> !(x==l)
 |0,_=>rfl
 |j+1,h=>by
  have e:=vB l c j (by omega)
  rw[show 8-j=7-j+1 from by omega]at e
  rw[show 8-(j+1)=7-j from by omega]
  simp only[frQ,dY,srQ]
  cases hc:c.getD (7-j) false with
  |false=>simpa using e
  |true=>
   rw[Bool.true_and,if_pos rfl,List.filter_cons]
   cases hl:(((7-j:Nat):Int)==l)with
   |false=>simp only[Bool.not_false,cond_true,if_true];exact congrArg _ e
   |true=>simpa using e
theorem DL (l:Int) {c:List Bool} (hc:c.length=8):frQ (srQ l c) 8=(flg c).filter fun x=> !(x==l):=by
 have:=vB l c 8 (Nat.le_refl _)
 unfold flg
 rw[hc]
 exact this
def mdO (k l:Int) (b:List Int) (c:List Bool) (v:Int):Option (List Int):=ofR k l (aR b c v) 4
structure Pln (k l:Int) (c:List Bool) (y:List Int):Prop where
 sub: ∀x,x∈y→ ∃i:Nat,i<8∧x=(i:Int)∧c.getD i false=true∧x≠l
 len:y.length≤4
 same:plA k l y=slA k l y
 al:(plA k l y).length=y.length
 af:a7 (plA k l y)=true
 sum: ∀q,q<4→dX (fun j=>zz ((plA k l y).getD j 0)*zz ((aH k (y.getD j 0)).getD q 0)) y.length=zz ((aH k l).getD q 0)
theorem R2 {k l:Int} {c:List Bool} {y:List Int} (hs:y.Sublist (frQ (srQ l c) 8)) (hn:y.length≤4) (h1:plB k l y=true) (h2:pl1 k l y=true):Pln k l c y:=by
 unfold pl1 at h2
 have h2:=(Bool.and_eq_true_iff.1 h2).2
 rw[h1,cond_true]at h2
 simp only[Bool.and_eq_true,rpS]at h2
 obtain⟨h3,h4,h5⟩:=h2
 refine⟨fun x hx=> ?_,hn,A2 h4,xS _ _, ?_,fun q hq=> ?_⟩
 ·obtain⟨i,g1,g2,g3⟩:=rC (by omega) (hs.subset hx)
  simp only[srQ,Bool.and_eq_true,rpS,Bool.not_eq_true',beq_eq_false_iff_ne]at g3
  exact⟨i,g1,g2,g3.1,by rw[g2];exact g3.2⟩
 ·have:=h1
  unfold plB at this
  cases hz:zB (plK k l y)with
  |false=>rw[hz]at this;cases this
  |true=>
   rw[hz,cond_true]at this
   simp only[fmB,Bool.and_eq_true,rpS]at this
   obtain⟨-,-,hl,ha⟩:=this
   rw[bX]at ha
   have hle:(plA k l y).length=y.length:=xS _ _
   simp only[a7,List.all_eq_true]
   intro x hx
   obtain⟨i,hi⟩:=List.getElem?_of_mem hx
   have hlt:=(List.getElem?_eq_some_iff.1 hi).1
   have:=ha i (by omega) (by omega)
   simp only[fmT,Bool.and_eq_true,rpS]at this
   have h4:=aX.1 this.2.2.2
   rw[List.getD_eq_getElem?_getD,hi,Option.getD_some]at h4
   exact cQ.2 (by omega)
 ·have:=kY (aV h5 q hq)
  rw[i5]at this
  simp only[fY]at this
  exact this
theorem JB {k l:Int} (hk:bet k 1 2=true) (hl:bet l 0 7=true) {b:List Int} {c:List Bool} (hc:c.length=8) (v:Int):poR k l (ofL b c v)=mdO k l b c v∧ ∀y,mdO k l b c v=some y→Pln k l (aR b c v) y:=by
 have h8:(aR b c v).length=8:=by rw[bP,hc]
 obtain⟨e1,e2⟩:=QY hk hl (c:=aR b c v) (DL l h8)
 refine⟨?_,fun y hy=> ?_⟩
 ·unfold poR mdO;rw[gX];exact e1
 ·obtain⟨g1,g2,g3,g4,g5⟩:=e2 y hy
  rw[←DL l h8]at g1
  exact R2 g1 g2 g4 g5
theorem Pln.shard {k l:Int} {c:List Bool} {y:List Int} (p:Pln k l c y):aK y=true:=by
 simp only[aK,List.all_eq_true]
 intro x hx
 obtain⟨i,h1,h2,-⟩:=p.sub x hx
 exact aX.2 (by omega)
theorem Pln.value {k l:Int} {c:List Bool} {y w d:List Int} (p:Pln k l c y) (hf:Fit k w c d):doL y (plA k l y) w=c8 k d l:=by
 have hz:zz (doL y (plA k l y) w)=zz (c8 k d l):=by
  unfold doL
  rw[l8 (s:=doS y (plA k l y) w) (f:=fun j=>zz ((plA k l y).getD j 0)*dz (aH k (y.getD j 0)) d) y.length fun i x hi=> ?_,nZ _ _ _ _ _ p.sum,fZ]
  obtain⟨i',h1,h2,h3,-⟩:=p.sub (y.getD i 0) (by rw[List.getD_eq_getElem?_getD,List.getElem?_eq_getElem hi];exact List.getElem_mem _)
  have:=hf i' h1 h3
  unfold doS
  rw[mL,kN,mL,fY,h2,Int.toNat_natCast,←this,fZ]
  congr 1
  exact Fin.mul_comm _ _
 refine pQ ?_ ?_ hz
 ·have: ∀n i s,fok s=true→fok (bL (doS y (plA k l y) w) n i s)=true:=fun n=>by
   induction n with
   |zero=>intro i s h;exact h
   |succ n ih=>intro i s h;exact ih _ _ (cQ.2 (by unfold doS;omega))
  exact this _ _ _ rfl
 ·exact g9 _ _ _
end
section
noncomputable def wY:List bD:=[⟨121,[],nm PA⟩,⟨112,[],nm (vwM K7)⟩]++yI
theorem W5:a6 Tryz.prog wY:=by
 refine a6.append ?_ W4
 intro e he
 simp only[List.mem_cons,List.not_mem_nil,or_false]at he
 rcases he with rfl|rfl
 ·exact mPO.ok
 ·exact aT.ok (aT.vw X5)
theorem FD:bJ Tryz.prog (a9 wY):=aM W5
theorem a3V (k:Int) (a b:List Int) (c:List Bool) (l:Int):aD tt (a9 wY) ([]) 100 Tryz.f63 [.agg [.int .i64 k,.view none (.ints .i64 a) a.length 1 none,.view none (.ints .i64 b) b.length 1 none,.view none (.bools c) c.length 1 none],.c (.int .i64 l)] [] [(0,true)]=
  some ⟨.tup [.agg [.int .i64 k,.sl 0 0 a.length 1 none,.sl 1 0 b.length 1 none,.sl 2 0 c.length 1 none],.c (.bool false)],[.live (.ints .i64 a),.live (.ints .i64 b),.live (.bools c)],(decide (a.length≤274877906944)&&(decide (b.length≤274877906944)&&(decide (c.length≤274877906944)&&(decide (c.length=8)&&(decide (b.length=8)&&(decide (a.length=8)&&(bet k 1 2&&(a7 a&&((!rdS k a b c)&&true))))))))),[]⟩:=by kernel_rfl
theorem a3W (k:Int) (a b:List Int) (c:List Bool) (l:Int):aD tt (a9 wY) ([]) 100 Tryz.f63 [.agg [.int .i64 k,.view none (.ints .i64 a) a.length 1 none,.view none (.ints .i64 b) b.length 1 none,.view none (.bools c) c.length 1 none],.c (.int .i64 l)] [] [(0,false),(0,true)]=
  some ⟨.tup [.agg [.int .i64 k,.sl 0 0 a.length 1 none,.sl 1 0 b.length 1 none,.sl 2 0 c.length 1 none],.c (.bool false)],[.live (.ints .i64 a),.live (.ints .i64 b),.live (.bools c)],(decide (a.length≤274877906944)&&(decide (b.length≤274877906944)&&(decide (c.length≤274877906944)&&(decide (c.length=8)&&(decide (b.length=8)&&(decide (a.length=8)&&(bet k 1 2&&(a7 a&&(!!rdS k a b c&&(decide (c.length≤274877906944)&&(decide (b.length=c.length)&&(decide ((ofL b c (rdN k a b c)).length=(ofL b c (rdN k a b c)).length)&&(bet k 1 2&&(bet l 0 7&&(aK (ofL b c (rdN k a b c))&&(decide ((ofL b c (rdN k a b c)).length≤8)&&((!isO (poR k l (ofL b c (rdN k a b c))))&&true))))))))))))))))),[]⟩:=by kernel_rfl
theorem a3X (k:Int) (a b:List Int) (c:List Bool) (l:Int):aD tt (a9 wY) ([]) 100 Tryz.f63 [.agg [.int .i64 k,.view none (.ints .i64 a) a.length 1 none,.view none (.ints .i64 b) b.length 1 none,.view none (.bools c) c.length 1 none],.c (.int .i64 l)] [] [(0,false),(0,false)]=
  some ⟨.tup [.agg [.int .i64 k,.sl 0 0 a.length 1 none,.sl 1 0 b.length 1 none,.sl 2 0 c.length 1 none],.c (.bool true)],[.live (.ints .i64 (a.set l.toNat (doL (ogL (poR k l (ofL b c (rdN k a b c))) []) (orB k l (poR k l (ofL b c (rdN k a b c))) []) a))),.live (.ints .i64 (b.set l.toNat (rdN k a b c))),.live (.bools (c.set l.toNat true))],(decide (a.length≤274877906944)&&(decide (b.length≤274877906944)&&(decide (c.length≤274877906944)&&(decide (c.length=8)&&(decide (b.length=8)&&(decide (a.length=8)&&(bet k 1 2&&(a7 a&&(!!rdS k a b c&&(decide (c.length≤274877906944)&&(decide (b.length=c.length)&&(decide ((ofL b c (rdN k a b c)).length=(ofL b c (rdN k a b c)).length)&&(bet k 1 2&&(bet l 0 7&&(aK (ofL b c (rdN k a b c))&&(decide ((ofL b c (rdN k a b c)).length≤8)&&(!!isO (poR k l (ofL b c (rdN k a b c)))&&(decide ((orB k l (poR k l (ofL b c (rdN k a b c))) []).length=(ogL (poR k l (ofL b c (rdN k a b c))) []).length)&&(decide (a.length=8)&&(decide ((ogL (poR k l (ofL b c (rdN k a b c))) []).length≤8)&&(a7 (orB k l (poR k l (ofL b c (rdN k a b c))) [])&&(a7 a&&(aK (ogL (poR k l (ofL b c (rdN k a b c))) [])&&((decide (0≤l)&&(decide (l<(↑a.length:Int))&&(decide (l.toNat<a.length)&&(decide (0≤l)&&(decide (l<(↑b.length:Int))&&(decide (l.toNat<b.length)&&(decide (0≤l)&&(decide (l<(↑c.length:Int))&&(decide (l.toNat<c.length)&&true)))))))))&&true)))))))))))))))))))))))),[]⟩:=by kernel_rfl
theorem a3Y (k:Int) (a b:List Int) (c:List Bool) (l:Int):aD tt (a9 wY) ([]) 100 Tryz.f98 [.agg [.int .i64 k,.view none (.ints .i64 a) a.length 1 none,.view none (.ints .i64 b) b.length 1 none,.view none (.bools c) c.length 1 none],.c (.int .i64 l)] [] [(0,true)]=
  some ⟨.tup [.agg [.int .i64 k,.sl 0 0 a.length 1 none,.sl 1 0 b.length 1 none,.sl 2 0 c.length 1 none],.c (.bool false)],[.live (.ints .i64 a),.live (.ints .i64 b),.live (.bools c)],(decide (a.length≤274877906944)&&(decide (b.length≤274877906944)&&(decide (c.length≤274877906944)&&(bet k 1 2&&(decide (a.length=8)&&(a7 a&&(decide (b.length=8)&&(decide (c.length=8)&&(decide (mxL b≤1000)&&((!l2B k a b c)&&true)))))))))),[]⟩:=by kernel_rfl
theorem a3Z (k:Int) (a b:List Int) (c:List Bool) (l:Int):aD tt (a9 wY) ([]) 100 Tryz.f98 [.agg [.int .i64 k,.view none (.ints .i64 a) a.length 1 none,.view none (.ints .i64 b) b.length 1 none,.view none (.bools c) c.length 1 none],.c (.int .i64 l)] [] [(0,false),(0,true)]=
  some ⟨.tup [.agg [.int .i64 k,.sl 0 0 a.length 1 none,.sl 1 0 b.length 1 none,.sl 2 0 c.length 1 none],.c (.bool false)],[.live (.ints .i64 a),.live (.ints .i64 b),.live (.bools c)],(decide (a.length≤274877906944)&&(decide (b.length≤274877906944)&&(decide (c.length≤274877906944)&&(bet k 1 2&&(decide (a.length=8)&&(a7 a&&(decide (b.length=8)&&(decide (c.length=8)&&(decide (mxL b≤1000)&&(!!l2B k a b c&&(decide (c.length≤274877906944)&&(decide (b.length=c.length)&&(decide (c.length=(aR b c (l2N k b c)).length)&&(bet k 1 2&&(bet l 0 7&&(decide ((aR b c (l2N k b c)).length=8)&&((!isO (ofR k l (aR b c (l2N k b c)) 4))&&true))))))))))))))))),[]⟩:=by kernel_rfl
theorem a40 (k:Int) (a b:List Int) (c:List Bool) (l:Int):aD tt (a9 wY) ([]) 100 Tryz.f98 [.agg [.int .i64 k,.view none (.ints .i64 a) a.length 1 none,.view none (.ints .i64 b) b.length 1 none,.view none (.bools c) c.length 1 none],.c (.int .i64 l)] [] [(0,false),(0,false)]=
  some ⟨.tup [.agg [.int .i64 k,.sl 0 0 a.length 1 none,.sl 1 0 b.length 1 none,.sl 2 0 c.length 1 none],.c (.bool true)],[.live (.ints .i64 (a.set l.toNat (doL (lsO (ofR k l (aR b c (l2N k b c)) 4)) (byO k l (ofR k l (aR b c (l2N k b c)) 4)) a))),.live (.ints .i64 (b.set l.toNat (l2N k b c))),.live (.bools (c.set l.toNat true))],(decide (a.length≤274877906944)&&(decide (b.length≤274877906944)&&(decide (c.length≤274877906944)&&(bet k 1 2&&(decide (a.length=8)&&(a7 a&&(decide (b.length=8)&&(decide (c.length=8)&&(decide (mxL b≤1000)&&(!!l2B k a b c&&(decide (c.length≤274877906944)&&(decide (b.length=c.length)&&(decide (c.length=(aR b c (l2N k b c)).length)&&(bet k 1 2&&(bet l 0 7&&(decide ((aR b c (l2N k b c)).length=8)&&(!!isO (ofR k l (aR b c (l2N k b c)) 4)&&(decide ((lsO (ofR k l (aR b c (l2N k b c)) 4)).length=(lsO (ofR k l (aR b c (l2N k b c)) 4)).length)&&(decide ((byO k l (ofR k l (aR b c (l2N k b c)) 4)).length=(byO k l (ofR k l (aR b c (l2N k b c)) 4)).length)&&(decide ((byO k l (ofR k l (aR b c (l2N k b c)) 4)).length=(lsO (ofR k l (aR b c (l2N k b c)) 4)).length)&&(decide (a.length=8)&&(decide ((lsO (ofR k l (aR b c (l2N k b c)) 4)).length≤8)&&(a7 (byO k l (ofR k l (aR b c (l2N k b c)) 4))&&(a7 a&&(aK (lsO (ofR k l (aR b c (l2N k b c)) 4))&&(decide (0≤l)&&(decide (l<(↑a.length:Int))&&(decide (l.toNat<a.length)&&(decide (0≤l)&&(decide (l<(↑b.length:Int))&&(decide (l.toNat<b.length)&&(decide (0≤l)&&(decide (l<(↑c.length:Int))&&((decide (l.toNat<c.length))&&true)))))))))))))))))))))))))))))))))),[]⟩:=by kernel_rfl
def mdB (k:Int) (a b:List Int) (c:List Bool) (l:Int):Bool:=bif rdS k a b c then isO (mdO k l b c (rdN k a b c))else false
def mdV (k:Int) (a b:List Int) (c:List Bool) (l:Int):Int:=doL (lsO (mdO k l b c (rdN k a b c))) (byO k l (mdO k l b c (rdN k a b c))) a
def mdA (k:Int) (a b:List Int) (c:List Bool) (l:Int):List Int:=bif mdB k a b c l then a.set l.toNat (mdV k a b c l)else a
def mdN (k:Int) (a b:List Int) (c:List Bool) (l:Int):List Int:=bif mdB k a b c l then b.set l.toNat (rdN k a b c)else b
def mdC (k:Int) (a b:List Int) (c:List Bool) (l:Int):List Bool:=bif mdB k a b c l then c.set l.toNat true else c
def E4:aN:=fun args h=>
 match args,h with
 |[.agg [.int .i64 k,.view _ (.ints .i64 a) n1 1 _,.view _ (.ints .i64 b) n2 1 _,.view _ (.bools c) n3 1 _],.c (.int .i64 l)],[]=>
  some (.tup [.agg [.int .i64 k,.sl 0 0 (mdA k a b c l).length 1 none,.sl 1 0 (mdN k a b c l).length 1 none,.sl 2 0 (mdC k a b c l).length 1 none],.c (.bool (mdB k a b c l))],[.live (.ints .i64 (mdA k a b c l)),.live (.ints .i64 (mdN k a b c l)),.live (.bools (mdC k a b c l))],[bU k a b c,bet l 0 7])
 |_,_=>none
theorem mMD:aT Tryz.prog 63 E4:=by
 intro args h res h' o hnorm he ho
 unfold E4 at he
 split at he
 case h_2=>cases he
 rename_i k nl1 a n1 cap1 nl2 b n2 cap2 nl3 c n3 cap3 l
 simp only[Option.some.injEq,Prod.mk.injEq]at he
 obtain⟨rfl,rfl,rfl⟩:=he
 simp only[List.mem_cons,List.not_mem_nil,or_false,forall_eq_or_imp,forall_eq,decide_eq_true_eq]at ho
 obtain⟨o1,o2⟩:=ho
 simp only[bE,AV.norm,bF,aF.norm,Con.size,List.cons.injEq,AV.c.injEq,AV.agg.injEq,aF.view.injEq,aL,true_and,and_true]at hnorm
 obtain⟨⟨rfl,rfl,rfl⟩,⟨rfl,rfl,rfl⟩,rfl,rfl,rfl⟩:=hnorm
 have S:=eP.1 o1
 obtain⟨hk,ha,hb,hc,hf,-,-⟩:=S
 obtain⟨e1,e2⟩:=JB (l:=l) hk o2 (b:=b) hc (rdN k a b c)
 obtain⟨s1,s2⟩:=kE (b:=b) (vs:=rdN k a b c) hc
 have h2:=aX.1 o2
 cases h1:rdS k a b c with
 |false=>
  have eB:mdB k a b c l=false:=by unfold mdB;rw[h1];rfl
  simp only[mdA,mdN,mdC,eB,cond_false]
  exact mo FD (a3V k a b c l) (by simp only[h1,hk,hf,bS,rpS];omega)
 |true=>
  cases h3:mdO k l b c (rdN k a b c)with
  |none=>
   have eB:mdB k a b c l=false:=by unfold mdB;rw[h1,h3];rfl
   rw[h3]at e1
   simp only[mdA,mdN,mdC,eB,cond_false]
   exact mo FD (a3W k a b c l) (by simp only[h1,hk,hf,o2,s1,e1,isO,Option.isSome_none,bS,rpS];omega)
  |some y=>
   have p:=e2 y h3
   have eB:mdB k a b c l=true:=by unfold mdB;rw[h1,h3];rfl
   have eV:mdV k a b c l=doL y (plA k l y) a:=by unfold mdV;rw[h3,p.same];rfl
   rw[h3]at e1
   simp only[mdA,mdN,mdC,eB,eV,cond_true]
   have e:=a3X k a b c l
   rw[e1]at e
   have q1:(orB k l (some y) []).length=(ogL (some y) []).length:=p.al
   have q2:(ogL (some y) ([]:List Int)).length≤8:=Nat.le_trans p.len (by decide)
   have q3:a7 (orB k l (some y) [])=true:=p.af
   have q4:aK (ogL (some y) [])=true:=p.shard
   have q5:isO (some y)=true:=rfl
   have m:=mo (f:=63) FD e (by simp only[h1,hk,hf,o2,s1,q1,q2,q3,q4,q5,decide_true,bS,rpS];omega)
   simp only[List.length_set]
   exact m
theorem mME:aT Tryz.prog 98 E4:=by
 intro args h res h' o hnorm he ho
 unfold E4 at he
 split at he
 case h_2=>cases he
 rename_i k nl1 a n1 cap1 nl2 b n2 cap2 nl3 c n3 cap3 l
 simp only[Option.some.injEq,Prod.mk.injEq]at he
 obtain⟨rfl,rfl,rfl⟩:=he
 simp only[List.mem_cons,List.not_mem_nil,or_false,forall_eq_or_imp,forall_eq,decide_eq_true_eq]at ho
 obtain⟨o1,o2⟩:=ho
 simp only[bE,AV.norm,bF,aF.norm,Con.size,List.cons.injEq,AV.c.injEq,AV.agg.injEq,aF.view.injEq,aL,true_and,and_true]at hnorm
 obtain⟨⟨rfl,rfl,rfl⟩,⟨rfl,rfl,rfl⟩,rfl,rfl,rfl⟩:=hnorm
 have S:=eP.1 o1
 obtain⟨r1,r2,r3⟩:=S.rd
 obtain⟨m1,m2⟩:=S.mx
 obtain⟨hk,ha,hb,hc,hf,-,-⟩:=S
 obtain⟨e1,e2⟩:=JB (l:=l) hk o2 (b:=b) hc (rdN k a b c)
 have h2:=aX.1 o2
 have h8:(aR b c (rdN k a b c)).length=8:=by rw[bP,hc]
 cases h1:rdS k a b c with
 |false=>
  have eB:mdB k a b c l=false:=by unfold mdB;rw[h1];rfl
  simp only[mdA,mdN,mdC,eB,cond_false]
  exact mo FD (a3Y k a b c l) (by simp only[r3,h1,hk,hf,bS,rpS];omega)
 |true=>
  cases h3:mdO k l b c (rdN k a b c)with
  |none=>
   have eB:mdB k a b c l=false:=by unfold mdB;rw[h1,h3];rfl
   unfold mdO at h3
   simp only[mdA,mdN,mdC,eB,cond_false]
   exact mo FD (a3Z k a b c l) (by simp only[r2,r3,h1,h3,h8,hk,hf,o2,isO,Option.isSome_none,bS,rpS];omega)
  |some y=>
   have p:=e2 y h3
   have eB:mdB k a b c l=true:=by unfold mdB;rw[h1,h3];rfl
   have eV:mdV k a b c l=doL y (slA k l y) a:=by unfold mdV;rw[h3];simp only[byO,jV,lsO,Option.isSome_some,Option.getD_some,cond_true]
   have pl:=p.al
   have pf:=p.af
   rw[p.same]at pl pf
   unfold mdO at h3
   simp only[mdA,mdN,mdC,eB,eV,cond_true]
   have e:=a40 k a b c l
   have eb:byO k l (some y)=slA k l y:=by simp only[byO,jV,lsO,Option.isSome_some,Option.getD_some,cond_true]
   rw[r2,h3,eb,show lsO (some y)=y from rfl]at e
   have q2:y.length≤8:=Nat.le_trans p.len (by decide)
   have q4:=p.shard
   have q5:isO (some y)=true:=rfl
   have m:=mo (f:=98) FD e (by simp only[r3,h1,h8,hk,hf,o2,pl,q2,pf,q4,q5,decide_true,bS,rpS];omega)
   simp only[List.length_set]
   exact m
end
section
end
section
noncomputable def s5:List bD:=[⟨63,[],nm E4⟩,⟨98,[],nm E4⟩,⟨105,[],nm D2⟩]++wY
theorem a4A:a6 Tryz.prog s5:=by
 refine a6.append ?_ W5
 intro e he
 simp only[List.mem_cons,List.not_mem_nil,or_false]at he
 rcases he with rfl|rfl|rfl
 ·exact mMD.ok
 ·exact mME.ok
 ·exact m52.ok
theorem xZ:bJ Tryz.prog (a9 s5):=aM a4A
theorem a3F (x:PK) (i:Int):aD tt (a9 s5) ([]) 100 Tryz.f15 [.agg x.vcells,.c (.int .i64 i)] [] [(0,true)]=
  some ⟨.tup [.agg [.int .i64 0,.nils,.nils,.nils,.bool false,.int .i64 0,.nils,.int .i64 0],.c (.bool false)],[],(decide (x.7.length≤274877906944)&&(rp3 (!bC x.1 x.2 x.3 x.4 x.5 x.6 x.7 x.8) ((!bC x.1 x.2 x.3 x.4 x.5 x.6 x.7 x.8)&&true))),[]⟩:=by kernel_rfl
theorem a3G (x:PK) (i:Int):aD tt (a9 s5) ([]) 100 Tryz.f15 [.agg x.vcells,.c (.int .i64 i)] [] [(0,false),(0,true)]=
  some ⟨.tup [.agg [.int .i64 0,.nils,.nils,.nils,.bool false,.int .i64 0,.nils,.int .i64 0],.c (.bool false)],[],(decide (x.7.length≤274877906944)&&(rp3 (!!bC x.1 x.2 x.3 x.4 x.5 x.6 x.7 x.8) ((bif !bC x.1 x.2 x.3 x.4 x.5 x.6 x.7 x.8 then true else !bet i 0 7)&&true))),[]⟩:=by kernel_rfl
theorem a3H (x:PK) (i:Int):aD tt (a9 s5) ([]) 100 Tryz.f15 [.agg x.vcells,.c (.int .i64 i)] [] [(0,false),(0,false),(0,true)]=
  some ⟨.tup [.agg [.int .i64 (dC x i).k,.sl 0 0 (dC x i).a.length 1 none,.sl 1 0 (dC x i).b.length 1 none,.sl 2 0 (dC x i).c.length 1 none,.bool (dC x i).on,.int .i64 (dC x i).kd,.sl 3 0 (dC x i).d.length 1 none,.int .i64 (dC x i).vs],.c (.bool (pI x i))],[.live (.ints .i64 (dC x i).a),.live (.ints .i64 (dC x i).b),.live (.bools (dC x i).c),.live (.ints .i64 (dC x i).d)],(decide (x.7.length≤274877906944)&&(rp3 (!!bC x.1 x.2 x.3 x.4 x.5 x.6 x.7 x.8) ((!bif !bC x.1 x.2 x.3 x.4 x.5 x.6 x.7 x.8 then true else !bet i 0 7)&&((x.5)&&((decide (x.7.length≤274877906944))&&true))))),[]⟩:=by kernel_rfl
theorem a3I (x:PK) (i:Int):aD tt (a9 s5) ([]) 100 Tryz.f15 [.agg x.vcells,.c (.int .i64 i)] [] [(0,false),(0,false),(0,false)]=
  some ⟨.tup [.agg [.int .i64 x.1,.sl 0 0 (mdA x.1 x.2 x.3 x.4 i).length 1 none,.sl 1 0 (mdN x.1 x.2 x.3 x.4 i).length 1 none,.sl 2 0 (mdC x.1 x.2 x.3 x.4 i).length 1 none,.bool x.5,.int .i64 x.6,.sl 3 0 x.7.length 1 none,.int .i64 x.8],.c (.bool (mdB x.1 x.2 x.3 x.4 i))],[.live (.ints .i64 (mdA x.1 x.2 x.3 x.4 i)),.live (.ints .i64 (mdN x.1 x.2 x.3 x.4 i)),.live (.bools (mdC x.1 x.2 x.3 x.4 i)),.live (.ints .i64 x.7)],(decide (x.7.length≤274877906944)&&(rp3 (!!bC x.1 x.2 x.3 x.4 x.5 x.6 x.7 x.8) ((!bif !bC x.1 x.2 x.3 x.4 x.5 x.6 x.7 x.8 then true else !bet i 0 7)&&((!x.5)&&(decide (x.2.length≤274877906944)&&(decide (x.3.length≤274877906944)&&(decide (x.4.length≤274877906944)&&(decide (x.7.length≤274877906944)&&(bU x.1 x.2 x.3 x.4&&((bet i 0 7)&&true)))))))))),[]⟩:=by kernel_rfl
theorem a3J (x:PK) (i:Int):aD tt (a9 s5) ([]) 100 Tryz.f43 [.agg x.vcells,.c (.int .i64 i)] [] [(0,true)]=
  some ⟨.tup [.agg [.int .i64 0,.nils,.nils,.nils,.bool false,.int .i64 0,.nils,.int .i64 0],.c (.bool false)],[],(decide (x.2.length≤274877906944)&&(decide (x.7.length≤274877906944)&&(rp3 (!bC x.1 x.2 x.3 x.4 x.5 x.6 x.7 x.8) ((!bC x.1 x.2 x.3 x.4 x.5 x.6 x.7 x.8)&&true)))),[]⟩:=by kernel_rfl
theorem a3K (x:PK) (i:Int):aD tt (a9 s5) ([]) 100 Tryz.f43 [.agg x.vcells,.c (.int .i64 i)] [] [(0,false),(0,true)]=
  some ⟨.tup [.agg [.int .i64 0,.nils,.nils,.nils,.bool false,.int .i64 0,.nils,.int .i64 0],.c (.bool false)],[],(decide (x.2.length≤274877906944)&&(decide (x.7.length≤274877906944)&&(rp3 (!!bC x.1 x.2 x.3 x.4 x.5 x.6 x.7 x.8) ((bif !bC x.1 x.2 x.3 x.4 x.5 x.6 x.7 x.8 then true else !bet i 0 7)&&true)))),[]⟩:=by kernel_rfl
theorem a3L (x:PK) (i:Int):aD tt (a9 s5) ([]) 100 Tryz.f43 [.agg x.vcells,.c (.int .i64 i)] [] [(0,false),(0,false),(0,true)]=
  some ⟨.tup [.agg [.int .i64 (shR x i).k,.sl 0 0 (shR x i).a.length 1 none,.sl 1 0 (shR x i).b.length 1 none,.sl 2 0 (shR x i).c.length 1 none,.bool (shR x i).on,.int .i64 (shR x i).kd,.sl 3 0 (shR x i).d.length 1 none,.int .i64 (shR x i).vs],.c (.bool true)],[.live (.ints .i64 (shR x i).a),.live (.ints .i64 (shR x i).b),.live (.bools (shR x i).c),.live (.ints .i64 (shR x i).d)],(decide (x.2.length≤274877906944)&&(decide (x.7.length≤274877906944)&&(rp3 (!!bC x.1 x.2 x.3 x.4 x.5 x.6 x.7 x.8) ((!bif !bC x.1 x.2 x.3 x.4 x.5 x.6 x.7 x.8 then true else !bet i 0 7)&&((x.5)&&(decide (x.2.length=8)&&(decide (x.3.length=8)&&(decide (x.4.length=8)&&(bet x.6 1 2&&(aE x.7 4&&((bet i 0 7)&&true))))))))))),[]⟩:=by kernel_rfl
theorem a3M (x:PK) (i:Int):aD tt (a9 s5) ([]) 100 Tryz.f43 [.agg x.vcells,.c (.int .i64 i)] [] [(0,false),(0,false),(0,false),(0,true)]=
  some ⟨.tup [.agg [.int .i64 x.1,.sl 0 0 (mdA x.1 x.2 x.3 x.4 i).length 1 none,.sl 1 0 (mdN x.1 x.2 x.3 x.4 i).length 1 none,.sl 2 0 (mdC x.1 x.2 x.3 x.4 i).length 1 none,.bool x.5,.int .i64 x.6,.sl 3 0 x.7.length 1 none,.int .i64 x.8],.c (.bool (mdB x.1 x.2 x.3 x.4 i))],[.live (.ints .i64 (mdA x.1 x.2 x.3 x.4 i)),.live (.ints .i64 (mdN x.1 x.2 x.3 x.4 i)),.live (.bools (mdC x.1 x.2 x.3 x.4 i)),.live (.ints .i64 x.7)],(decide (x.2.length≤274877906944)&&(decide (x.7.length≤274877906944)&&(rp3 (!!bC x.1 x.2 x.3 x.4 x.5 x.6 x.7 x.8) ((!bif !bC x.1 x.2 x.3 x.4 x.5 x.6 x.7 x.8 then true else !bet i 0 7)&&((!x.5)&&(decide (x.2.length≤274877906944)&&(decide (x.3.length≤274877906944)&&(decide (x.4.length≤274877906944)&&(decide (x.7.length≤274877906944)&&(bU x.1 x.2 x.3 x.4&&(bet i 0 7&&((mdB x.1 x.2 x.3 x.4 i)&&true)))))))))))),[]⟩:=by kernel_rfl
theorem a3N (x:PK) (i:Int):aD tt (a9 s5) ([]) 100 Tryz.f43 [.agg x.vcells,.c (.int .i64 i)] [] [(0,false),(0,false),(0,false),(0,false)]=
  some ⟨.tup [.agg [.int .i64 x.1,.sl 0 0 x.2.length 1 none,.sl 1 0 x.3.length 1 none,.sl 2 0 x.4.length 1 none,.bool x.5,.int .i64 x.6,.sl 3 0 x.7.length 1 none,.int .i64 x.8],.c (.bool (mdB x.1 x.2 x.3 x.4 i))],[.live (.ints .i64 x.2),.live (.ints .i64 x.3),.live (.bools x.4),.live (.ints .i64 x.7)],(decide (x.2.length≤274877906944)&&(decide (x.7.length≤274877906944)&&(rp3 (!!bC x.1 x.2 x.3 x.4 x.5 x.6 x.7 x.8) ((!bif !bC x.1 x.2 x.3 x.4 x.5 x.6 x.7 x.8 then true else !bet i 0 7)&&((!x.5)&&(decide (x.2.length≤274877906944)&&(decide (x.3.length≤274877906944)&&(decide (x.4.length≤274877906944)&&(decide (x.7.length≤274877906944)&&(bU x.1 x.2 x.3 x.4&&(bet i 0 7&&((!mdB x.1 x.2 x.3 x.4 i)&&true)))))))))))),[]⟩:=by kernel_rfl
def mdK (x:PK) (i:Int):PK:=⟨x.k,mdA x.k x.a x.b x.c i,mdN x.k x.a x.b x.c i,mdC x.k x.a x.b x.c i,x.on,x.kd,x.d,x.vs⟩
def eY (x:PK) (i:Int):PK:=bif x.ok&&bet i 0 7 then(bif x.on then shR x i else mdK x i)else PK0
def nL (x:PK) (i:Int):Bool:=bif x.ok&&bet i 0 7 then(bif x.on then true else mdB x.k x.a x.b x.c i)else false
def K6:aN:=fun args h=>
 match args,h with
 |[.agg [.int .i64 k,.view _ (.ints .i64 a) n1 1 _,.view _ (.ints .i64 b) n2 1 _,.view _ (.bools c) n3 1 _,.bool on,.int .i64 kd,.view _ (.ints .i64 d) n4 1 _,.int .i64 vs],.c (.int .i64 x)],[]=>
  some (.tup [.agg (eY ⟨k,a,b,c,on,kd,d,vs⟩ x).cells,.c (.bool (nL ⟨k,a,b,c,on,kd,d,vs⟩ x))],[.live (.ints .i64 (eY ⟨k,a,b,c,on,kd,d,vs⟩ x).a),.live (.ints .i64 (eY ⟨k,a,b,c,on,kd,d,vs⟩ x).b),.live (.bools (eY ⟨k,a,b,c,on,kd,d,vs⟩ x).c),.live (.ints .i64 (eY ⟨k,a,b,c,on,kd,d,vs⟩ x).d)],[decide (a.length≤274877906944),decide (d.length≤274877906944)])
 |_,_=>none
theorem mKM:aT Tryz.prog 15 K6:=by
 intro args h res h' o hnorm he ho
 unfold K6 at he
 split at he
 case h_2=>cases he
 rename_i k nl1 a n1 cap1 nl2 b n2 cap2 nl3 c n3 cap3 on kd nl4 d n4 cap4 vs x
 simp only[Option.some.injEq,Prod.mk.injEq]at he
 obtain⟨rfl,rfl,rfl⟩:=he
 simp only[List.mem_cons,List.not_mem_nil,or_false,forall_eq_or_imp,forall_eq,decide_eq_true_eq]at ho
 obtain⟨o1,o2⟩:=ho
 simp only[bE,AV.norm,bF,aF.norm,Con.size,List.cons.injEq,AV.c.injEq,AV.agg.injEq,aF.view.injEq,aL,true_and,and_true]at hnorm
 obtain⟨⟨rfl,rfl,rfl⟩,⟨rfl,rfl,rfl⟩,⟨rfl,rfl,rfl⟩,rfl,rfl,rfl⟩:=hnorm
 unfold eY nL
 cases h1:(⟨k,a,b,c,on,kd,d,vs⟩:PK).ok with
 |false=>
  have h1':bC k a b c on kd d vs=false:=h1
  exact gJ (mo xZ (a3F ⟨k,a,b,c,on,kd,d,vs⟩ x) (by simp only[h1',o2,decide_true,bS,rpS]))
 |true=>
  have h1':bC k a b c on kd d vs=true:=h1
  cases h2:bet x 0 7 with
  |false=>exact gJ (mo xZ (a3G ⟨k,a,b,c,on,kd,d,vs⟩ x) (by simp only[h1',h2,o2,decide_true,bS,rpS]))
  |true=>
   cases on with
   |true=>
    have e:=a3H ⟨k,a,b,c,true,kd,d,vs⟩ x
    have e1:dC ⟨k,a,b,c,true,kd,d,vs⟩ x=shR ⟨k,a,b,c,true,kd,d,vs⟩ x:=by rw[FC h1 h2];rfl
    have e2:pI ⟨k,a,b,c,true,kd,d,vs⟩ x=true:=FB h1 rfl h2
    rw[e1,e2]at e
    exact mo xZ e (by simp only[h1',h2,o2,decide_true,bS,rpS])
   |false=>
    have K:=PK.offK h1 rfl
    have hs:=eP.2 K.s
    obtain⟨-,ha,hb,hc,-,-,-⟩:=K.s
    dsimp only at hs ha hb hc
    exact mo xZ (a3I ⟨k,a,b,c,false,kd,d,vs⟩ x) (by simp only[h1',h2,hs,o2,decide_true,bS,rpS];omega)
theorem mKN:aT Tryz.prog 43 K6:=by
 intro args h res h' o hnorm he ho
 unfold K6 at he
 split at he
 case h_2=>cases he
 rename_i k nl1 a n1 cap1 nl2 b n2 cap2 nl3 c n3 cap3 on kd nl4 d n4 cap4 vs x
 simp only[Option.some.injEq,Prod.mk.injEq]at he
 obtain⟨rfl,rfl,rfl⟩:=he
 simp only[List.mem_cons,List.not_mem_nil,or_false,forall_eq_or_imp,forall_eq,decide_eq_true_eq]at ho
 obtain⟨o1,o2⟩:=ho
 simp only[bE,AV.norm,bF,aF.norm,Con.size,List.cons.injEq,AV.c.injEq,AV.agg.injEq,aF.view.injEq,aL,true_and,and_true]at hnorm
 obtain⟨⟨rfl,rfl,rfl⟩,⟨rfl,rfl,rfl⟩,⟨rfl,rfl,rfl⟩,rfl,rfl,rfl⟩:=hnorm
 unfold eY nL
 cases h1:(⟨k,a,b,c,on,kd,d,vs⟩:PK).ok with
 |false=>
  have h1':bC k a b c on kd d vs=false:=h1
  exact gJ (mo xZ (a3J ⟨k,a,b,c,on,kd,d,vs⟩ x) (by simp only[h1',o1,o2,decide_true,bS,rpS]))
 |true=>
  have h1':bC k a b c on kd d vs=true:=h1
  cases h2:bet x 0 7 with
  |false=>exact gJ (mo xZ (a3K ⟨k,a,b,c,on,kd,d,vs⟩ x) (by simp only[h1',h2,o1,o2,decide_true,bS,rpS]))
  |true=>
   cases on with
   |true=>
    have K:=PK.onK h1 rfl
    have q1:=K.ha
    have q2:=K.hb
    have q3:=K.hc
    have q4:=K.hkd
    have q5:=K.hd
    dsimp only at q1 q2 q3 q4 q5
    exact mo xZ (a3L ⟨k,a,b,c,true,kd,d,vs⟩ x) (by simp only[h1',h2,q4,q5,o1,o2,decide_true,bS,rpS];omega)
   |false=>
    have K:=PK.offK h1 rfl
    have hs:=eP.2 K.s
    obtain⟨-,ha,hb,hc,-,-,-⟩:=K.s
    dsimp only at hs ha hb hc
    rcases Bool.eq_false_or_eq_true (mdB k a b c x)with h3|h3
    ·exact mo xZ (a3M ⟨k,a,b,c,false,kd,d,vs⟩ x) (by simp only[h1',h2,h3,hs,o1,o2,decide_true,bS,rpS];omega)
    ·have e:=a3N ⟨k,a,b,c,false,kd,d,vs⟩ x
     have eA:mdA k a b c x=a:=by unfold mdA;rw[h3];rfl
     have eN:mdN k a b c x=b:=by unfold mdN;rw[h3];rfl
     have eC:mdC k a b c x=c:=by unfold mdC;rw[h3];rfl
     simp only[mdK,eA,eN,eC]
     exact mo xZ e (by simp only[h1',h2,h3,hs,o1,o2,decide_true,bS,rpS];omega)
end
end Go.Proofs.YthapjdpkelihiaaGreat.Am
