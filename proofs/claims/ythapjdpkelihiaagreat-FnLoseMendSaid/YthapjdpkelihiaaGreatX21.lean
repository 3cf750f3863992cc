/- DERIVED. Part 21 of the proof: P22, Am42, C102, P12, P13, P14, P15, P16, P17, P18, P19, P23, C103, C89, C104. No statement of the program is proved here. -/
import Derived.Test.YthapjdpkelihiaaGreatX20
set_option linter.unusedSimpArgs false
set_option linter.unusedVariables false
set_option linter.unusedSectionVars false
namespace Go.Proofs.YthapjdpkelihiaaGreat.Am
section
def chL (p:List Int→Bool):List Int→Nat→List Int→Option (List Int)
 |_,0,f=>bif p f then some f else none
 |[],_+1,_=>none
 |x::r,m+1,f=>match chL p r m (f++[x])with
  |some y=>some y
  |none=>chL p r (m+1) f
theorem vF (p:List Int→Bool) (L:List Int) (f:List Int):chL p L 0 f=bif p f then some f else none:=by cases L<;>rfl
theorem LP (sh:List Int) {j:Nat} (h:j+1≤sh.length):sh.drop (sh.length-(j+1))=sh.getD (sh.length-(j+1)) 0::sh.drop (sh.length-j):=by
 have hlt:sh.length-(j+1)<sh.length:=by omega
 rw[List.drop_eq_getElem_cons hlt,List.getD_eq_getElem?_getD,List.getElem?_eq_getElem hlt,show sh.length-(j+1)+1=sh.length-j from by omega]
 rfl
theorem QF (p:List Int→Bool) (sh:List Int): ∀(j m:Nat) (f:List Int),j≤sh.length→ch p sh j m f=chL p (sh.drop (sh.length-j)) m f
 |j,0,f,_=>by rw[WL,vF]
 |0,m+1,f,_=>by rw[Nat.sub_zero,List.drop_length];rfl
 |j+1,m+1,f,h=>by
  rw[LP sh h]
  show(match ch p sh j m (f++[sh.getD (sh.length-(j+1)) 0])with|some x=>some x|none=>ch p sh j (m+1) f)=(match chL p (sh.drop (sh.length-j)) m (f++[sh.getD (sh.length-(j+1)) 0])with|some x=>some x|none=>chL p (sh.drop (sh.length-j)) (m+1) f)
  rw[QF p sh j m _ (by omega),QF p sh j (m+1) f (by omega)]
def frQ (q:Nat→Bool):Nat→List Int
 |0=>[]
 |j+1=>bif q (7-j)then((7-j:Nat):Int)::frQ q j else frQ q j
theorem O1 (p:List Int→Bool) (q:Nat→Bool): ∀(j m:Nat) (f:List Int),sr p q j m f=chL p (frQ q j) m f
 |j,0,f=>by rw[a12,vF]
 |0,m+1,f=>rfl
 |j+1,m+1,f=>by
  show(bif q (7-j)then(match sr p q j m (f++[((7-j:Nat):Int)])with|some x=>some x|none=>sr p q j (m+1) f)else sr p q j (m+1) f)=_
  rw[O1 p q j m _,O1 p q j (m+1) f]
  cases hq:q (7-j)with
  |false=>simp only[frQ,hq,cond_false]
  |true=>simp only[frQ,hq,cond_true,chL]
theorem n7 {p:List Int→Bool}: ∀ {L:List Int} {m:Nat} {f:List Int},chL p L m f=none→ ∀g,g.Sublist L→g.length=m→p (f++g)=false
 |L,0,f,h,g,_,hg=>by
  rw[vF]at h
  obtain rfl:g=[]:=List.eq_nil_of_length_eq_zero hg
  rw[List.append_nil]
  cases hp:p f with
  |false=>rfl
  |true=>rw[hp]at h;cases h
 |[],m+1,f,h,g,hs,hg=>by cases hs;cases hg
 |x::r,m+1,f,h,g,hs,hg=>by
  simp only[chL]at h
  cases h1:chL p r m (f++[x])with
  |some y=>rw[h1]at h;cases h
  |none=>
   rw[h1]at h
   cases hs with
   |cons _ hs=>exact n7 h g hs hg
   |cons_cons _ hs=>
    have:=n7 h1 _ hs (by simpa using hg)
    simpa using this
theorem sN {p:List Int→Bool}: ∀ {L:List Int} {m:Nat} {f y:List Int},chL p L m f=some y→ ∃g,g.Sublist L∧g.length=m∧y=f++g∧p y=true
 |L,0,f,y,h=>by
  rw[vF]at h
  cases hp:p f with
  |false=>rw[hp]at h;cases h
  |true=>
   rw[hp,cond_true]at h
   injection h with h;subst h
   exact⟨[],List.nil_sublist _,rfl,(List.append_nil _).symm,hp⟩
 |[],m+1,f,y,h=>by cases h
 |x::r,m+1,f,y,h=>by
  simp only[chL]at h
  cases h1:chL p r m (f++[x])with
  |some z=>
   rw[h1]at h
   injection h with h;subst h
   obtain⟨g,g1,g2,g3,g4⟩:=sN h1
   exact⟨x::g,g1.cons_cons x,by simp[g2],by simp[g3],g4⟩
  |none=>
   rw[h1]at h
   obtain⟨g,g1,g2,g3,g4⟩:=sN h
   exact⟨g,g1.cons x,g2,g3,g4⟩
theorem oY {p p':List Int→Bool}: ∀ {L:List Int} {m:Nat} {f:List Int},(∀g,g.Sublist L→g.length=m→p (f++g)=p' (f++g))→chL p L m f=chL p' L m f
 |L,0,f,h=>by
  have:=h [] (List.nil_sublist _) rfl
  rw[List.append_nil]at this
  rw[vF,vF,this]
 |[],m+1,f,h=>rfl
 |x::r,m+1,f,h=>by
  simp only[chL]
  rw[oY (L:=r) (m:=m) (f:=f++[x]) fun g hs hg=>by simpa using h (x::g) (hs.cons_cons x) (by simp[hg]),oY (L:=r) (m:=m+1) (f:=f) fun g hs hg=>h g (hs.cons x) hg]
theorem oV {t:List Int→Bool}: ∀ {j m:Nat} {f:List Int},fR t j m f=true→ ∀g,g.Sublist (frQ (fun _=>true) j)→g.length=m→t (f++g)=true
 |j,0,f,h,g,_,hg=>by
  rw[HK]at h
  obtain rfl:g=[]:=List.eq_nil_of_length_eq_zero hg
  rwa[List.append_nil]
 |0,m+1,f,h,g,hs,hg=>by cases hs;cases hg
 |j+1,m+1,f,h,g,hs,hg=>by
  simp only[fR,Bool.and_eq_true]at h
  simp only[frQ,cond_true]at hs
  cases hs with
  |cons _ hs=>exact oV h.2 g hs hg
  |cons_cons _ hs=>
   have:=oV h.1 _ hs (by simpa using hg)
   simpa using this
theorem nJ (q:Nat→Bool): ∀j,(frQ q j).Sublist (frQ (fun _=>true) j)
 |0=>List.Sublist.refl _
 |j+1=>by
  simp only[frQ,cond_true]
  cases q (7-j)with
  |false=>exact(nJ q j).cons _
  |true=>exact(nJ q j).cons_cons _
theorem rN {q:Nat→Bool}: ∀ {j:Nat},j≤8→ ∀ {x:Int},x∈frQ q j→ ∃i:Nat,i<8∧x=(i:Int)∧q i=true
 |0,_,x,h=>by cases h
 |j+1,hj,x,h=>by
  simp only[frQ]at h
  cases hq:q (7-j)with
  |false=>rw[hq]at h;exact rN (by omega) h
  |true=>
   rw[hq,cond_true]at h
   rcases List.mem_cons.1 h with rfl|h
   ·exact⟨7-j,by omega,rfl,hq⟩
   ·exact rN (by omega) h
theorem zV {x:Int}: ∀ {v:List Int},iW x v=true↔x∈v
 |[]=>by simp[iW]
 |y::r=>by simp[iW,zV]
theorem AG: ∀ {a b:List Int},AF a b=true→a=b
 |[],[],_=>rfl
 |x::r,y::s,h=>by
  simp only[AF,Bool.and_eq_true,beq_iff_eq]at h
  rw[h.1,AG h.2]
 |[],_::_,h=>by cases h
 |_::_,[],h=>by cases h
theorem vC {f:Nat→Bool}: ∀ {n:Nat},HL f n=true→ ∃i,i<n∧f i=true
 |0,h=>by cases h
 |n+1,h=>by
  simp only[HL,Bool.or_eq_true]at h
  rcases h with h|h
  ·exact⟨n,by omega,h⟩
  ·obtain⟨i,hi,e⟩:=vC h
   exact⟨i,by omega,e⟩
theorem NU {k l:Int} (hk:bet k 1 2=true) (hl:bet l 0 7=true):slB k l []=false:=by
 have h:cB (fun l=> !slB 1 (l:Int) []&& !slB 2 (l:Int) []) 8=true:=by kernel_rfl
 have h1:=b8.1 hk
 have h2:=b8.1 hl
 obtain⟨l,rfl⟩: ∃l':Nat,l=(l':Int):=⟨l.toNat,by omega⟩
 have:=aY h l (by omega)
 simp only[Bool.and_eq_true,Bool.not_eq_true']at this
 rcases(by omega:k=1∨k=2)with rfl|rfl
 ·exact this.1
 ·exact this.2
theorem y7 {k l:Int} (hk:bet k 1 2=true) (hl:bet l 0 7=true) {m:Nat} (hm:m<4) {g:List Int} (hs:g.Sublist (frQ (fun _=>true) 8)) (hg:g.length=m+1) (hn:l∉g):pl1 k l g=true:=by
 have:=oV (YF hk hm) g hs hg
 rw[List.nil_append,RM]at this
 simp only[Bool.and_eq_true,Bool.or_eq_true,zV]at this
 obtain⟨p0,p1,p2,p3,p4,p5,p6,p7⟩:=this
 have h2:=b8.1 hl
 rcases(by omega:l=0∨l=1∨l=2∨l=3∨l=4∨l=5∨l=6∨l=7)with rfl|rfl|rfl|rfl|rfl|rfl|rfl|rfl
 ·exact p0.resolve_left hn
 ·exact p1.resolve_left hn
 ·exact p2.resolve_left hn
 ·exact p3.resolve_left hn
 ·exact p4.resolve_left hn
 ·exact p5.resolve_left hn
 ·exact p6.resolve_left hn
 ·exact p7.resolve_left hn
def ofI (k l:Int) (sh:List Int):Nat→Option (List Int)
 |0=>none
 |j+1=>match chR k l sh 0 (4-j) []with
  |some y=>some y
  |none=>ofI k l sh j
section
variable {k l : Int} (hk : bet k 1 2 = true) (hl : bet l 0 7 = true) {c : List Bool}
include hk hl
theorem CU {g:List Int} (hs:g.Sublist (frQ (srQ l c) 8)):l∉g:=fun h=>by
 obtain⟨i,h1,h2,h3⟩:=rN (by omega) (hs.subset h)
 simp only[srQ,h2,beq_self_eq_true,Bool.not_true,Bool.and_false]at h3
 cases h3
theorem rR {m:Nat} (hm:m<4) (h:m=0∨chL (slB k l) (frQ (srQ l c) 8) m []=none):chL (plB k l) (frQ (srQ l c) 8) (m+1) []=chL (slB k l) (frQ (srQ l c) 8) (m+1) []:=by
 refine oY fun g hs hg=> ?_
 rw[List.nil_append]
 have:=y7 hk hl hm (hs.trans (nJ _ _)) hg (CU hk hl hs)
 unfold pl1 at this
 have this:=(Bool.and_eq_true_iff.1 this).2
 cases h1:plB k l g with
 |true=>
  rw[h1,cond_true]at this
  simp only[Bool.and_eq_true]at this
  exact this.1.symm
 |false=>
  rw[h1,cond_false]at this
  cases h2:slB k l g with
  |false=>rfl
  |true=>
   rw[h2,cond_true]at this
   obtain⟨i,hi,e⟩:=vC this
   have e:=(Bool.and_eq_true_iff.1 e).2
   have hle:(g.eraseIdx i).length=m:=by rw[List.length_eraseIdx_of_lt hi];omega
   rcases h with rfl|h
   ·rw[List.eq_nil_of_length_eq_zero hle,NU hk hl]at e;cases e
   ·have:=n7 h (g.eraseIdx i) ((List.eraseIdx_sublist g i).trans hs) hle
    rw[List.nil_append,e]at this;cases this
theorem RJ {sh:List Int} (hc:frQ (srQ l c) 8=sh):ofI k l sh 4=ofR k l c 4∧ ∀y,ofR k l c 4=some y→y.Sublist sh∧y.length≤4∧1≤y.length∧plB k l y=true∧pl1 k l y=true:=by
 subst hc
 have e1: ∀m,chR k l (frQ (srQ l c) 8) 0 m []=chL (plB k l) (frQ (srQ l c) 8) m []:=fun m=>by
  unfold chR
  rw[QF _ _ _ _ _ (Nat.le_refl _|>fun h=>by omega),show(frQ (srQ l c) 8).length-((frQ (srQ l c) 8).length-0)=0 from by omega,List.drop_zero]
 have e2: ∀m,shS k l c 0 m []=chL (slB k l) (frQ (srQ l c) 8) m []:=fun m=>by rw[tZ,O1]
 have fin: ∀m y,m<4→chL (plB k l) (frQ (srQ l c) 8) (m+1) []=some y→y.Sublist (frQ (srQ l c) 8)∧y.length≤4∧1≤y.length∧plB k l y=true∧pl1 k l y=true:=fun m y hm h=>by
  obtain⟨g,g1,g2,g3,g4⟩:=sN h
  rw[List.nil_append]at g3
  subst g3
  exact⟨g1,by omega,by omega,g4,y7 hk hl hm (g1.trans (nJ _ _)) g2 (CU hk hl g1)⟩
 have s1:=rR (c:=c) hk hl (m:=0) (by omega) (.inl rfl)
 simp only[ofI,ofR,e1,e2,Nat.sub_zero,Nat.reduceSub]
 cases h1:chL (slB k l) (frQ (srQ l c) 8) 1 []with
 |some y=>rw[h1]at s1;rw[s1];exact⟨rfl,fun z hz=>fin 0 z (by omega) (by rw[s1];exact hz)⟩
 |none=>
  rw[h1]at s1;rw[s1]
  have s2:=rR (c:=c) hk hl (m:=1) (by omega) (.inr h1)
  cases h2:chL (slB k l) (frQ (srQ l c) 8) 2 []with
  |some y=>rw[h2]at s2;rw[s2];exact⟨rfl,fun z hz=>fin 1 z (by omega) (by rw[s2];exact hz)⟩
  |none=>
   rw[h2]at s2;rw[s2]
   have s3:=rR (c:=c) hk hl (m:=2) (by omega) (.inr h2)
   cases h3:chL (slB k l) (frQ (srQ l c) 8) 3 []with
   |some y=>rw[h3]at s3;rw[s3];exact⟨rfl,fun z hz=>fin 2 z (by omega) (by rw[s3];exact hz)⟩
   |none=>
    rw[h3]at s3;rw[s3]
    have s4:=rR (c:=c) hk hl (m:=3) (by omega) (.inr h3)
    cases h4:chL (slB k l) (frQ (srQ l c) 8) 4 []with
    |some y=>rw[h4]at s4;rw[s4];exact⟨rfl,fun z hz=>fin 3 z (by omega) (by rw[s4];exact hz)⟩
    |none=>rw[h4]at s4;rw[s4];exact⟨rfl,fun z hz=>by cases hz⟩
end
end
section
def nilV:aJ→aJ→Prop
 |x,y=>x=y∨(x=.nils∧ ∃c es cap,y=.view none c 0 es cap∧c.size=0∧ ∀k,cap=some k→k=0)
theorem nilV.sound {X:Nat→Prop} {w:World} {ρ:Rho} {x y:aJ} {v:Value} (h:nilV x y) (hx:CR X w ρ x v):CR X w ρ y v:=by
 rcases h with rfl|⟨rfl,c,es,cap,rfl,hz,hc⟩
 ·exact hx
 ·cases hx
  exact .viewNone none c es cap none 0 hz (fun k hk=>(hc k hk).symm) (fun _ h=>by cases h) (fun _=>rfl)
def jW:List aJ→List aJ→Prop
 |[],[]=>True
 |x::r,y::s=>nilV x y∧jW r s
 |_,_=>False
theorem jW.len: ∀ {l m:List aJ},jW l m→l.length=m.length
 |[],[],_=>rfl
 |_::_,_::_,h=>by simp[jW.len h.2]
 |[],_::_,h=>h.elim
 |_::_,[],h=>h.elim
theorem jW.get: ∀ {l m:List aJ},jW l m→ ∀i,nilV (l.getD i .any) (m.getD i .any)
 |[],[],_,_=> .inl rfl
 |_::_,_::_,h,0=>h.1
 |_::r,_::s,h,i+1=>by simpa using jW.get h.2 i
 |[],_::_,h,_=>h.elim
 |_::_,[],h,_=>h.elim
theorem cA.nilV {l m:List aJ} (h:jW l m):cA (.live (.cells l)) (.live (.cells m)):=fun X w ρ x hs=>by
 cases x with
 |unborn=>exact hs.elim
 |dead=>exact hs.elim
 |nil=>simp only[dW,Con.size]at hs⊢;rw[←h.len];exact hs
 |row b=>
  obtain⟨cs,ty,h1,h2,h3⟩:=hs
  refine⟨cs,ty,h1,by simp only[Con.size]at h2⊢;rw[←h.len];exact h2,fun q hq=> ?_⟩
  simp only[Con.size]at hq
  have:=h3 q (by simp only[Con.size];rw[h.len];exact hq)
  exact(h.get q).sound this
def qN:AV→AV→Prop
 |.c x,.c y=>nilV x y
 |.agg l,.agg m=>jW l m
 |x,y=>x=y
theorem qN.sound {X:Nat→Prop} {w:World} {ρ:Rho} {x y:AV} {v:Value} (h:qN x y) (hx:AVR X w ρ x v):AVR X w ρ y v:=by
 cases x with
 |c x=>
  cases y with
  |c y=>cases hx with|c _ _ hx=>exact .c _ _ (nilV.sound h hx)
  |_=>exact absurd h (by simp[qN])
 |agg l=>
  cases y with
  |agg m=>cases hx with|agg _ vs hs hx=>exact .agg _ _ (by rw[←jW.len h];exact hs) fun i hi=>(jW.get h i).sound (hx i (by rw[jW.len h];exact hi))
  |_=>exact absurd h (by simp[qN])
 |any=>simp only[qN]at h;subst h;exact hx
 |tup l=>simp only[qN]at h;subst h;exact hx
def qO:List AV→List AV→Prop
 |[],[]=>True
 |x::r,y::s=>qN x y∧qO r s
 |_,_=>False
theorem qO.len: ∀ {l m:List AV},qO l m→l.length=m.length
 |[],[],_=>rfl
 |_::_,_::_,h=>by simp[qO.len h.2]
 |[],_::_,h=>h.elim
 |_::_,[],h=>h.elim
theorem qO.get: ∀ {l m:List AV},qO l m→ ∀i,qN (l.getD i (.tup [])) (m.getD i (.tup []))
 |[],[],_,_=>rfl
 |_::_,_::_,h,0=>h.1
 |_::r,_::s,h,i+1=>by simpa using qO.get h.2 i
 |[],_::_,h,_=>h.elim
 |_::_,[],h,_=>h.elim
theorem bE.nilV {P:Program} {f:FuncId} {args:List AV} {h h':List b9} {l m:List AV} (hm:bE P f args h (.tup l) h') (hl:qO l m):bE P f args h (.tup m) h':=by
 refine⟨hm.1,fun {X w0 ρ0} mm vs hl' hv=> ?_⟩
 refine Calls.mono (hm.2 mm vs hl' hv) ?_
 rintro e w' ⟨v,ρ',rfl,mb,im,m',hx⟩
 refine⟨v,_,rfl,mb,im,m', ?_⟩
 cases hx with
 |tup _ us hus hx=>exact .tup _ us (by rw[←hl.len];exact hus) fun i hi=>(hl.get i).sound (hx i (by rw[hl.len];exact hi))
end
section
noncomputable def T99:List bF:=[⟨154,[0,1],B7⟩]++T98
theorem e99:a8 Tryz.prog T99:=by
 refine a8.append ?_ e98
 intro e he
 simp only[List.mem_cons,List.not_mem_nil,or_false]at he
 subst he;exact XX
theorem t99:bN Tryz.prog (aB T99):=aP e99
noncomputable abbrev fCH:=Tryz.f163
theorem a42 (k l many:Int) (ns n1 n2:Nat) (b0:Int) (sh F0 B0:List Int):aG tt (aB T99) ([]) 100 fCH [.c (.sl 0 0 ns 1 none),.c (.int .i64 many),.c (.fn 164 [.ptr 1 0 0 0,.ptr 2 0 0 0,.ptr 3 0 0 0])] [.live (.ints .i64 sh),.live (.ints .i64 [k]),.live (.ints .i64 [l]),.live (.cells [.int .i64 b0,.view none (.ints .i64 F0) n1 1 none,.view none (.ints .i64 B0) n2 1 none])] []=
  some ⟨.c (.bool (isO (chR k l sh 0 many.toNat []))),[.live (.ints .i64 sh),.live (.ints .i64 [k]),.live (.ints .i64 [l]),.live (.cells [.int .i64 (bif isO (chR k l sh 0 many.toNat [])then l else b0),.view none (.ints .i64 (ogL (chR k l sh 0 many.toNat []) F0)) (ogL (chR k l sh 0 many.toNat []) F0).length 1 none,.view none (.ints .i64 (orB k l (chR k l sh 0 many.toNat []) B0)) (orB k l (chR k l sh 0 many.toNat []) B0).length 1 none])],(decide (0≤many)&&(decide (many≤274877906944)&&(decide (many.toNat<5)&&(bet k 1 2&&(bet l 0 7&&(aM sh&&(decide (n1=F0.length)&&(decide (n2=B0.length)&&(decide (ns=sh.length)&&(decide (sh.length≤8)&&(bet 0 0 (↑sh.length:Int)&&(decide (0≤many)&&((decide (many≤4))&&true))))))))))))),[]⟩:=by kernel_rfl
def chO (k l:Int) (sh:List Int) (many:Int):Option (List Int):=chR k l sh 0 many.toNat []
def PH:aQ:=fun args h=>
 match args,h with
 |[.c (.sl 0 0 ns 1 none),.c (.int .i64 many),.c (.fn 164 [.ptr 1 0 0 0,.ptr 2 0 0 0,.ptr 3 0 0 0])],[.live (.ints .i64 sh),.live (.ints .i64 [k]),.live (.ints .i64 [l]),.live (.cells [.int .i64 b0,.view none (.ints .i64 F0) n1 1 none,.view none (.ints .i64 B0) n2 1 none])]=>
  some (.c (.bool (isO (chO k l sh many))),[.live (.ints .i64 sh),.live (.ints .i64 [k]),.live (.ints .i64 [l]),.live (.cells [.int .i64 (bif isO (chO k l sh many)then l else b0),.view none (.ints .i64 (ogL (chO k l sh many) F0)) (ogL (chO k l sh many) F0).length 1 none,.view none (.ints .i64 (orB k l (chO k l sh many) B0)) (orB k l (chO k l sh many) B0).length 1 none])],[bet k 1 2,bet l 0 7,aM sh,decide (n1=F0.length),decide (n2=B0.length),decide (ns=sh.length),decide (sh.length≤8),bet many 0 4])
 |_,_=>none
theorem mCH:aS Tryz.prog 163 PH:=by
 intro args h res h' o he ho
 unfold PH at he
 split at he
 case h_2=>cases he
 rename_i ns many sh k l b0 F0 n1 B0 n2
 simp only[Option.some.injEq,Prod.mk.injEq]at he
 obtain⟨rfl,rfl,rfl⟩:=he
 simp only[List.mem_cons,List.not_mem_nil,or_false,forall_eq_or_imp,forall_eq,decide_eq_true_eq]at ho
 obtain⟨o1,o2,o3,o4,o5,o6,o7,o8⟩:=ho
 have h8:=b8.1 o8
 have hb:bet 0 0 (sh.length:Int)=true:=b8.2 (by omega)
 exact a5 t99 (by kernel_rfl) (by kernel_rfl) (a42 k l many ns n1 n2 b0 sh F0 B0) (by simp only[o1,o2,o3,hb,bS];omega) (by simp) (fun cc _=>aF.nil)
noncomputable def yT:List bF:=[⟨163,[0,2],PH⟩]++T99
theorem WT:a8 Tryz.prog yT:=by
 refine a8.append ?_ e99
 intro e he
 simp only[List.mem_cons,List.not_mem_nil,or_false]at he
 subst he;exact mCH
theorem TY:bN Tryz.prog (aB yT):=aP WT
noncomputable abbrev fPO:=Tryz.f121
noncomputable def hPO (k l:Int) (sh:List Int) (x:List aJ):List b9:=[.live (.ints .i64 [k]),.live (.ints .i64 [l]),.live (.cells [.int .i64 0,.nils,.nils]),.live (.ints .i64 sh),.live (.cells x)]
noncomputable def sPO (k l:Int) (n:Nat) (sh:List Int) (x:List aJ) (many:Int):St:=bA fPO.ntmps [(3,.c (.ptr 0 0 0 0)),(4,.c (.ptr 1 0 0 0)),(6,.c (.ptr 2 0 0 0)),(8,.c (.sl 3 0 n 1 none)),(9,.c (.ptr 4 0 0 0)),(10,.c (.int .i64 many))] (hPO k l sh x)
noncomputable def IPO (k l:Int) (n:Nat) (sh:List Int) (n1 n2:Nat) (b0:Int) (F0 B0:List Int) (many:Int):St:=sPO k l n sh [.int .i64 b0,.view none (.ints .i64 F0) n1 1 none,.view none (.ints .i64 B0) n2 1 none] many
noncomputable def XPO:St:=bA fPO.ntmps [(6,.c (.ptr 0 0 0 0))] [.live (.cells [.int .i64 0,.nils,.nils])]
noncomputable def YPO (l:Int) (n1 n2:Nat) (F B:List Int):St:=bA fPO.ntmps [(6,.c (.ptr 0 0 0 0)),(7,.c (.bool true))] [.live (.cells [.int .i64 l,.view none (.ints .i64 F) n1 1 none,.view none (.ints .i64 B) n2 1 none])]
theorem a0Y (k l:Int) (n:Nat) (sh:List Int) (n1 n2:Nat) (b0:Int) (F0 B0:List Int) (many:Int):aH 0 (aA fPO 0) (aD fPO 0) (aK tt (aB yT) ([]) 0 100 (a6 0 (a7 fPO)) (IPO k l n sh n1 n2 b0 F0 B0 many) [(0,true),(0,true)])=
  some (.ret,(decide (many≤4)&&(bet k 1 2&&(bet l 0 7&&(aM sh&&(decide (n1=F0.length)&&(decide (n2=B0.length)&&(decide (n=sh.length)&&(decide (sh.length≤8)&&(bet many 0 4&&((isO (chO k l sh many))&&true)))))))))),[],YPO (bif isO (chO k l sh many)then l else b0) ((ogL (chO k l sh many) F0).length) ((orB k l (chO k l sh many) B0).length) (ogL (chO k l sh many) F0) (orB k l (chO k l sh many) B0)):=by kernel_rfl
theorem a0Z (k l:Int) (n:Nat) (sh:List Int) (n1 n2:Nat) (b0:Int) (F0 B0:List Int) (many:Int):aH 0 (aA fPO 0) (aD fPO 0) (aK tt (aB yT) ([]) 0 100 (a6 0 (a7 fPO)) (IPO k l n sh n1 n2 b0 F0 B0 many) [(0,true),(0,false)])=
  some (.normal,(decide (many≤4)&&(bet k 1 2&&(bet l 0 7&&(aM sh&&(decide (n1=F0.length)&&(decide (n2=B0.length)&&(decide (n=sh.length)&&(decide (sh.length≤8)&&(bet many 0 4&&((!isO (chO k l sh many))&&true)))))))))),[],IPO k l (n) sh ((ogL (chO k l sh many) F0).length) ((orB k l (chO k l sh many) B0).length) (bif isO (chO k l sh many)then l else b0) (ogL (chO k l sh many) F0) (orB k l (chO k l sh many) B0) (IntKind.i64.wrap (many+1))):=by kernel_rfl
theorem a10 (k l:Int) (n:Nat) (sh:List Int) (n1 n2:Nat) (b0:Int) (F0 B0:List Int) (many:Int):aH 0 (aA fPO 0) (aD fPO 0) (aK tt (aB yT) ([]) 0 100 (a6 0 (a7 fPO)) (IPO k l n sh n1 n2 b0 F0 B0 many) [(0,false)])=
  some (.exit 0,((!decide (many≤4))&&true),[],XPO):=by kernel_rfl
theorem a50 (k l:Int) (v:List Int):aG tt (aB yT) ([(0,⟨aA fPO 0,sPO k l (v.filter fun x=> !(x==l)).length (v.filter fun x=> !(x==l)) [.int .i64 0,.nils,.nils] 1,.normal,XPO⟩)]) 100 fPO [.c (.int .i64 k),.c (.int .i64 l),.c (.view none (.ints .i64 v) v.length 1 none)] [] []=
  some ⟨.tup [.agg [.int .i64 0,.nils,.nils],.c (.bool false)],[],(decide (v.length≤274877906944)&&(decide (v.length≤274877906944)&&((decide (v.length=v.length))&&true))),[sPO k l (v.filter fun x=> !(x==l)).length (v.filter fun x=> !(x==l)) [.int .i64 0,.nils,.nils] 1=sPO k l (v.filter fun x=> !(x==l)).length (v.filter fun x=> !(x==l)) [.int .i64 0,.nils,.nils] 1]⟩:=by kernel_rfl
theorem WD (k l:Int) (v:List Int) (l':Int) (n1 n2:Nat) (F B:List Int):aG tt (aB yT) ([(0,⟨aA fPO 0,sPO k l (v.filter fun x=> !(x==l)).length (v.filter fun x=> !(x==l)) [.int .i64 0,.nils,.nils] 1,.ret,YPO l' n1 n2 F B⟩)]) 100 fPO [.c (.int .i64 k),.c (.int .i64 l),.c (.view none (.ints .i64 v) v.length 1 none)] [] []=
  some ⟨.tup [.agg [.int .i64 l',.view none (.ints .i64 F) n1 1 none,.view none (.ints .i64 B) n2 1 none],.c (.bool true)],[],(decide (v.length≤274877906944)&&(decide (v.length≤274877906944)&&((decide (v.length=v.length))&&true))),[sPO k l (v.filter fun x=> !(x==l)).length (v.filter fun x=> !(x==l)) [.int .i64 0,.nils,.nils] 1=sPO k l (v.filter fun x=> !(x==l)).length (v.filter fun x=> !(x==l)) [.int .i64 0,.nils,.nils] 1]⟩:=by kernel_rfl
noncomputable def YPR (k l:Int) (r:Option (List Int)):St:=YPO (bif isO r then l else 0) (ogL r []).length (orB k l r []).length (ogL r []) (orB k l r [])
theorem lPO (k l:Int) (sh:List Int) (hk:bet k 1 2=true) (hl:bet l 0 7=true) (hs:aM sh=true) (h8:sh.length≤8):
  ∀j,j≤4→aW Tryz.prog 0 (.block 0 (.loop (a6 0 (a7 fPO)))) (IPO k l sh.length sh 0 0 0 [] [] ((5-j:Nat):Int)) fun e t=>
   e=(bif isO (ofI k l sh j)then .ret else .normal)∧t=(bif isO (ofI k l sh j)then YPR k l (ofI k l sh j)else XPO):=by
 refine aW.roundsR hT TY bM (m:=0) (id:=0) (body:=a6 0 (a7 fPO)) (α:=Nat) (fun j=>j≤4) (fun j=>IPO k l sh.length sh 0 0 0 [] [] ((5-j:Nat):Int)) (fun j=>j) (aA fPO 0) (aD fPO 0)
  (fun j=>bif isO (ofI k l sh j)then .ret else .normal) (fun j=>bif isO (ofI k l sh j)then YPR k l (ofI k l sh j)else XPO) (fun _=>[]) (fun _ _=>aF.nil) (fun j hj=> ?_)
 cases j with
 |zero=>exact⟨_,_,_,_,_,_,a10 k l sh.length sh 0 0 0 [] [] ((5:Nat):Int),by simp,by simp,.inr (.inl ⟨rfl,rfl,rfl⟩)⟩
 |succ j=>
  rw[show 5-(j+1)=4-j from by omega]
  have w1:IntKind.i64.wrap (((4-j:Nat):Int)+1)=((5-j:Nat):Int):=by rw[aE (by omega) (by omega)];omega
  have b1:bet ((4-j:Nat):Int) 0 4=true:=b8.2 (by omega)
  have go:ofI k l sh (j+1)=(match chO k l sh ((4-j:Nat):Int)with|some y=>some y|none=>ofI k l sh j):=rfl
  rw[go]
  cases hr:chO k l sh ((4-j:Nat):Int)with
  |some y=>
   have e:=a0Y k l sh.length sh 0 0 0 [] [] ((4-j:Nat):Int)
   rw[hr]at e
   refine⟨_,_,_,_,_,_,e, ?_,by simp,.inr (.inr ⟨by simp,by simp,rfl,rfl⟩)⟩
   simp only[hk,hl,hs,b1,hr,isO,Option.isSome_some,List.length_nil,decide_true,bS]
   omega
  |none=>
   have e:=a0Z k l sh.length sh 0 0 0 [] [] ((4-j:Nat):Int)
   rw[w1,hr]at e
   refine⟨_,_,_,_,_,_,e, ?_,by simp,.inl ⟨rfl,j,by omega,Nat.lt_succ_self _,rfl,rfl,rfl⟩⟩
   simp only[hk,hl,hs,b1,hr,isO,Option.isSome_none,List.length_nil,decide_true,bS]
   omega
def poR (k l:Int) (v:List Int):Option (List Int):=ofI k l (v.filter fun x=> !(x==l)) 4
def PT:aQ:=fun args h=>
 match args,h with
 |[.c (.int .i64 k),.c (.int .i64 l),.c (.view _ (.ints .i64 v) n 1 _)],[]=>
  some (.tup [.agg [.int .i64 (bif isO (poR k l v)then l else 0),.view none (.ints .i64 (ogL (poR k l v) [])) (ogL (poR k l v) []).length 1 none,.view none (.ints .i64 (orB k l (poR k l v) [])) (orB k l (poR k l v) []).length 1 none],.c (.bool (isO (poR k l v)))],[],[bet k 1 2,bet l 0 7,aM v,decide (v.length≤8)])
 |_,_=>none
theorem mPO:aV Tryz.prog 121 PT:=by
 intro args h res h' o hnorm he ho
 unfold PT at he
 split at he
 case h_2=>cases he
 rename_i k l nl v n cap
 simp only[Option.some.injEq,Prod.mk.injEq]at he
 obtain⟨rfl,rfl,rfl⟩:=he
 simp only[List.mem_cons,List.not_mem_nil,or_false,forall_eq_or_imp,forall_eq,decide_eq_true_eq]at ho
 obtain⟨o1,o2,o3,o4⟩:=ho
 simp only[bG,AV.norm,bI,aJ.norm,Con.size,List.cons.injEq,AV.c.injEq,AV.agg.injEq,aJ.view.injEq,aN,true_and,and_true]at hnorm
 obtain⟨rfl,rfl,rfl⟩:=hnorm
 have hs:aM (v.filter fun x=> !(x==l))=true:=by
  simp only[aM,List.all_eq_true]at o3⊢
  exact fun x hx=>o3 x (List.mem_filter.1 hx).1
 have h8:(v.filter fun x=> !(x==l)).length≤8:=Nat.le_trans (List.length_filter_le _ _) o4
 have g:=(lPO k l _ o1 o2 hs h8 4 (Nat.le_refl _)).pre (s:=sPO k l (v.filter fun x=> !(x==l)).length (v.filter fun x=> !(x==l)) [.int .i64 0,.nils,.nils] 1)
  (cX.slots (h:=hPO k l (v.filter fun x=> !(x==l)) [.int .i64 0,.nils,.nils]) (h':=hPO k l (v.filter fun x=> !(x==l)) [.int .i64 0,.view none (.ints .i64 []) 0 1 none,.view none (.ints .i64 []) 0 1 none])
   ⟨cA.refl _,cA.refl _,cA.refl _,cA.refl _,cA.nilV ⟨.inl rfl,.inr ⟨rfl,_,_,_,rfl,rfl,fun _ h=>by cases h⟩,.inr ⟨rfl,_,_,_,rfl,rfl,fun _ h=>by cases h⟩,trivial⟩,trivial⟩)
 have er:poR k l v=ofI k l (v.filter fun x=> !(x==l)) 4:=rfl
 cases hr:poR k l v with
 |some y=>
  rw[←er,hr]at g
  exact a5 TY (by kernel_rfl) (by kernel_rfl) (WD k l v l y.length (plA k l y).length y (plA k l y)) (by simp only[decide_true,bS];omega) (by simp) (fun cc hcc=>aF.cons (c:=cc) (by cases hcc;kernel_rfl) (by cases hcc;exact g) aF.nil)
 |none=>
  rw[←er,hr]at g
  have m:=a5 (f:=121) TY (by kernel_rfl) (by kernel_rfl) (a50 k l v) (by simp only[decide_true,bS];omega) (by simp) (fun cc hcc=>aF.cons (c:=cc) (by cases hcc;kernel_rfl) (by cases hcc;exact g) aF.nil)
  exact m.nilV ⟨⟨.inl rfl,.inr ⟨rfl,_,_,_,rfl,rfl,fun _ h=>by cases h⟩,.inr ⟨rfl,_,_,_,rfl,rfl,fun _ h=>by cases h⟩,trivial⟩,.inl rfl,trivial⟩
end
section
def PK.rD (x:PK):List Int:=krD x.k x.a x.b x.c x.on x.kd x.d x.vs
def PK.rB (x:PK):Bool:=krB x.k x.a x.b x.c x.on x.kd x.d x.vs
theorem PK.kok {x:PK} (h:x.ok=true):aO x.k x.a x.b x.c x.on x.kd x.d x.vs=true:=h
theorem JU {x:PK} (h:x.ok=true):x.rB=true:=by
 unfold PK.rB krB
 rw[x.kok h,cond_true]
 cases ho:x.on with
 |true=>rfl
 |false=>rw[cond_false];exact(x.offK h ho).rd
theorem EA {x:PK} (h:x.ok=true) (ho:x.on=true):x.rD=x.d:=by
 unfold PK.rD krD
 rw[x.kok h,cond_true,ho];rfl
theorem CW {x:PK} (h:x.ok=true) (ho:x.on=false):x.rD=rdD x.k x.a x.b x.c:=by
 unfold PK.rD krD
 rw[x.kok h,cond_true,ho,cond_false]
theorem a86 {x:PK} (h:x.d.length≤4):x.rD.length≤274877906944:=xZ _ _ _ _ _ _ _ _ (by omega)
end
section
theorem LM (x:PK) (kind:Int) {e:List Int} (he:e.length≤4):(cS x kind e).a.length≤8∧(cS x kind e).b.length≤8∧(cS x kind e).c.length≤8∧(cS x kind e).d.length≤4:=by
 unfold cS
 cases h:x.ok&&(bet kind 1 2&&aC e 4)with
 |false=>rw[cond_false];exact⟨by show 0≤8;omega,by show 0≤8;omega,by show 0≤8;omega,by show 0≤4;omega⟩
 |true=>
  rw[cond_true]
  rw[Bool.and_eq_true]at h
  obtain⟨g4,ga,gb,gc⟩:=gG h.1
  cases h2:x.on||(gE x.b x.c==99)with
  |true=>rw[cond_true];exact⟨by omega,by omega,by omega,g4⟩
  |false=>rw[cond_false];exact⟨Nat.le_of_eq ga,Nat.le_of_eq gb,Nat.le_of_eq gc,he⟩
end
section
theorem QU {k:Int} {w v:List Int} (hk:bet k 1 2=true) (hv:aM v=true):aC (j7 k w v) 4=true:=by
 have h:=u6 (w:=w) hk hv
 have g:=fun i=>aR h i
 unfold aC j7
 simp only[a9,List.all_cons,List.all_nil,g,Bool.and_true,List.length_cons,List.length_nil,Bool.true_and]
 rfl
theorem TT {x:PK} (h:x.ok=true):aC x.rD 4=true:=by
 cases ho:x.on with
 |true=>rw[EA h ho];exact(x.onK h ho).hd
 |false=>
  rw[CW h ho]
  have K:=x.offK h ho
  have hr:=K.rd
  unfold rdS at hr
  unfold rdD
  cases hv:rdV x.k x.a x.b x.c with
  |none=>rw[hv]at hr;cases hr
  |some y=>
   have hv':=hv
   unfold rdV at hv'
   have hb:rdB x.k x.a (ofL x.b x.c y)=true:=List.find?_some (p:=fun y=>rdB x.k x.a (ofL x.b x.c y)) hv'
   show aC (rdX x.k x.a (ofL x.b x.c y)) 4=true
   unfold rdX
   rw[hb,cond_true]
   exact QU K.s.hk (by rw[g9];exact l4 (by rw[bV];exact K.s.hc))
theorem TZ {x:PK} (kind:Int) (hd:x.d.length≤4):(tbK x kind).a.length≤8∧(tbK x kind).b.length≤8∧(tbK x kind).c.length≤8∧(tbK x kind).d.length≤4:=by
 unfold tbK
 cases h:x.ok&&bet kind 1 2 with
 |false=>rw[cond_false];exact⟨by show 0≤8;omega,by show 0≤8;omega,by show 0≤8;omega,by show 0≤4;omega⟩
 |true=>
  rw[cond_true]
  rw[Bool.and_eq_true]at h
  obtain⟨g4,ga,gb,gc⟩:=gG h.1
  cases h2:x.k==kind with
  |true=>rw[cond_true];exact⟨by omega,by omega,by omega,g4⟩
  |false=>rw[cond_false];exact LM x kind (show x.rD.length≤4 by rw[(gW (TT h.1)).2];omega)
end
section
theorem WV {α:Type} {l m:List α} (d:α) (hl:l.length=8) (hm:m.length=8) (h: ∀i,i<8→l.getD i d=m.getD i d):l=m:=by
 apply List.ext_getElem (by omega)
 intro i h1 h2
 have:=h i (by omega)
 rwa[List.getD_eq_getElem?_getD,List.getD_eq_getElem?_getD,List.getElem?_eq_getElem h1,List.getElem?_eq_getElem h2]at this
end
section
structure C6 (x y:PK):Prop where
 ok:y.ok=true
 on:y.on=true
 kd:y.kd=x.kd
 d:y.d=x.d
 vs:y.vs=x.vs
theorem C6.rfl' {x:PK} (h:x.ok=true) (ho:x.on=true):C6 x x:=⟨h,ho,rfl,rfl,rfl⟩
theorem C6.shR {x y:PK} (S:C6 x y) {i:Int} (hi:bet i 0 7=true):C6 x (shR y i):=
 ⟨JL S.ok S.on hi,S.on,S.kd,S.d,S.vs⟩
theorem AJ {x:PK} {i:Int} (h:x.ok=true) (ho:x.on=true) (hi:bet i 0 7=true):C6 x (shR x i)∧(shR x i).rB=true∧(shR x i).rD=x.rD∧x.rD=x.d∧(shR x i).a.getD i.toNat 0=(fJ x.kd x.d).getD i.toNat 0∧(shR x i).b.getD i.toNat 0=x.vs∧(shR x i).c.getD i.toNat false=true∧
  ∀j,j<8→j≠i.toNat→(shR x i).a.getD j 0=x.a.getD j 0∧(shR x i).b.getD j 0=x.b.getD j 0∧(shR x i).c.getD j false=x.c.getD j false:=by
 have S:=(C6.rfl' h ho).shR hi
 have hi':=b8.1 hi
 obtain⟨g4,ga,gb,gc⟩:=gG h
 have K:=x.onK h ho
 refine⟨S,JU S.ok,by rw[EA S.ok S.on,EA h ho];rfl,EA h ho, ?_, ?_, ?_,fun j hj hn=>⟨?_, ?_, ?_⟩⟩
 ·show(x.a.set _ _).getD _ 0=_
  rw[aX,if_pos ⟨rfl,by omega⟩,i6 K.hd]
 ·show(x.b.set _ _).getD _ 0=_
  rw[aX,if_pos ⟨rfl,by omega⟩]
 ·show(x.c.set _ _).getD _ false=_
  rw[cY,if_pos ⟨rfl,by omega⟩]
 ·show(x.a.set _ _).getD _ 0=_
  rw[aX,if_neg (fun e=>hn e.1.symm)]
 ·show(x.b.set _ _).getD _ 0=_
  rw[aX,if_neg (fun e=>hn e.1.symm)]
 ·show(x.c.set _ _).getD _ false=_
  rw[cY,if_neg (fun e=>hn e.1.symm)]
end
section
theorem WR (b:List Int):0≤QS b:=by
 have h8:=cR (b.take 2000) (kdr (b.take 2000) 0).2 (x:=8) (by omega)
 have h24:=cR (b.take 2000) ((kdr (b.take 2000) 0).2+1) (x:=24) (by omega)
 unfold QS;omega
theorem a5C (b:List Int):(dkR b).a.length≤8∧(dkR b).d.length≤4:=by
 obtain⟨⟨z1,z2,z3,z4⟩,-,-⟩:=t0 (b.take 2000) (p:=0) (by omega)
 have z1:(dkR b).a.length=8:=z1
 have z4:(dkR b).d.length≤4:=z4
 omega
end
section
theorem EH (x:PK) (i:Int):(tbK x i).a.length≤8∧(tbK x i).b.length≤8∧(tbK x i).c.length≤8∧(tbK x i).d.length≤4:=by
 cases h:x.ok with
 |true=>exact TZ i (gG h).1
 |false=>
  have e:tbK x i=PK0:=by unfold tbK;rw[h];rfl
  rw[e];exact⟨by show 0≤8;omega,by show 0≤8;omega,by show 0≤8;omega,by show 0≤4;omega⟩
def taK (x:PK) (i:Int):PK:=bif tbB x i then bU (tbK x i)else tbK x i
end
section
theorem FQ {y:PK} {i:Int} (h:y.ok=true) (ho:y.on=true) (hi:bet i 0 7=true):pQ y i=true:=by
 unfold pQ;rw[h,hi,ho];rfl
end
section
theorem vO (l:Int) (c:List Bool): ∀j,j≤8→frQ (srQ l c) j=(eG c j (8-j)).filter fun x=> !(x==l)
 |0,_=>rfl
 |j+1,h=>by
  have e:=vO l c j (by omega)
  rw[show 8-j=7-j+1 from by omega]at e
  rw[show 8-(j+1)=7-j from by omega]
  simp only[frQ,eG,srQ]
  cases hc:c.getD (7-j) false with
  |false=>simpa using e
  |true=>
   rw[Bool.true_and,if_pos rfl,List.filter_cons]
   cases hl:(((7-j:Nat):Int)==l)with
   |false=>simp only[Bool.not_false,cond_true,if_true];exact congrArg _ e
   |true=>simpa using e
theorem DX (l:Int) {c:List Bool} (hc:c.length=8):frQ (srQ l c) 8=(flg c).filter fun x=> !(x==l):=by
 have:=vO l c 8 (Nat.le_refl _)
 unfold flg
 rw[hc]
 exact this
def mdO (k l:Int) (b:List Int) (c:List Bool) (v:Int):Option (List Int):=ofR k l (aU b c v) 4
structure Pln (k l:Int) (c:List Bool) (y:List Int):Prop where
 sub: ∀x,x∈y→ ∃i:Nat,i<8∧x=(i:Int)∧c.getD i false=true∧x≠l
 len:y.length≤4
 same:plA k l y=slA k l y
 al:(plA k l y).length=y.length
 af:a9 (plA k l y)=true
 sum: ∀q,q<4→eF (fun j=>zz ((plA k l y).getD j 0)*zz ((aL k (y.getD j 0)).getD q 0)) y.length=zz ((aL k l).getD q 0)
theorem RN {k l:Int} {c:List Bool} {y:List Int} (hs:y.Sublist (frQ (srQ l c) 8)) (hn:y.length≤4) (h1:plB k l y=true) (h2:pl1 k l y=true):Pln k l c y:=by
 unfold pl1 at h2
 have h2:=(Bool.and_eq_true_iff.1 h2).2
 rw[h1,cond_true]at h2
 simp only[Bool.and_eq_true]at h2
 obtain⟨h3,h4,h5⟩:=h2
 refine⟨fun x hx=> ?_,hn,AG h4,y8 _ _, ?_,fun q hq=> ?_⟩
 ·obtain⟨i,g1,g2,g3⟩:=rN (by omega) (hs.subset hx)
  simp only[srQ,Bool.and_eq_true,Bool.not_eq_true',beq_eq_false_iff_ne]at g3
  exact⟨i,g1,g2,g3.1,by rw[g2];exact g3.2⟩
 ·have:=h1
  unfold plB at this
  cases hz:zB (plK k l y)with
  |false=>rw[hz]at this;cases this
  |true=>
   rw[hz,cond_true]at this
   simp only[fmB,Bool.and_eq_true]at this
   obtain⟨-,-,hl,ha⟩:=this
   rw[bY]at ha
   have hle:(plA k l y).length=y.length:=y8 _ _
   simp only[a9,List.all_eq_true]
   intro x hx
   obtain⟨i,hi⟩:=List.getElem?_of_mem hx
   have hlt:=(List.getElem?_eq_some_iff.1 hi).1
   have:=ha i (by omega) (by omega)
   simp only[fmT,Bool.and_eq_true]at this
   have h4:=b8.1 this.2.2.2
   rw[List.getD_eq_getElem?_getD,hi,Option.getD_some]at h4
   exact cU.2 (by omega)
 ·have:=l8 (aY h5 q hq)
  rw[iE]at this
  simp only[gF]at this
  exact this
theorem JR {k l:Int} (hk:bet k 1 2=true) (hl:bet l 0 7=true) {b:List Int} {c:List Bool} (hc:c.length=8) (v:Int):poR k l (ofL b c v)=mdO k l b c v∧ ∀y,mdO k l b c v=some y→Pln k l (aU b c v) y:=by
 have h8:(aU b c v).length=8:=by rw[bV,hc]
 obtain⟨e1,e2⟩:=RJ hk hl (c:=aU b c v) (DX l h8)
 refine⟨?_,fun y hy=> ?_⟩
 ·unfold poR mdO;rw[g9];exact e1
 ·obtain⟨g1,g2,g3,g4,g5⟩:=e2 y hy
  rw[←DX l h8]at g1
  exact RN g1 g2 g4 g5
theorem Pln.shard {k l:Int} {c:List Bool} {y:List Int} (p:Pln k l c y):aM y=true:=by
 simp only[aM,List.all_eq_true]
 intro x hx
 obtain⟨i,h1,h2,-⟩:=p.sub x hx
 exact b8.2 (by omega)
theorem Pln.value {k l:Int} {c:List Bool} {y w d:List Int} (p:Pln k l c y) (hf:Fit k w c d):doL y (plA k l y) w=c8 k d l:=by
 have hz:zz (doL y (plA k l y) w)=zz (c8 k d l):=by
  unfold doL
  rw[lF (s:=doS y (plA k l y) w) (f:=fun j=>zz ((plA k l y).getD j 0)*dz (aL k (y.getD j 0)) d) y.length fun i x hi=> ?_,oG _ _ _ _ _ p.sum,gH]
  obtain⟨i',h1,h2,h3,-⟩:=p.sub (y.getD i 0) (by rw[List.getD_eq_getElem?_getD,List.getElem?_eq_getElem hi];exact List.getElem_mem _)
  have:=hf i' h1 h3
  unfold doS
  rw[mU,kV,mU,gF,h2,Int.toNat_natCast,←this,gH]
  congr 1
  exact Fin.mul_comm _ _
 refine pZ ?_ ?_ hz
 ·have: ∀n i s,fok s=true→fok (bP (doS y (plA k l y) w) n i s)=true:=fun n=>by
   induction n with
   |zero=>intro i s h;exact h
   |succ n ih=>intro i s h;exact ih _ _ (cU.2 (by unfold doS;omega))
  exact this _ _ _ rfl
 ·exact gL _ _ _
end
section
noncomputable def xJ:List bF:=[⟨121,[],nm PT⟩,⟨112,[],nm (vwM KN)⟩]++yT
theorem WU:a8 Tryz.prog xJ:=by
 refine a8.append ?_ WT
 intro e he
 simp only[List.mem_cons,List.not_mem_nil,or_false]at he
 rcases he with rfl|rfl
 ·exact mPO.ok
 ·exact aV.ok (aV.vw XV)
theorem FS:bN Tryz.prog (aB xJ):=aP WU
theorem a4P (k:Int) (a b:List Int) (c:List Bool) (l:Int):aG tt (aB xJ) ([]) 100 Tryz.f63 [.agg [.int .i64 k,.view none (.ints .i64 a) a.length 1 none,.view none (.ints .i64 b) b.length 1 none,.view none (.bools c) c.length 1 none],.c (.int .i64 l)] [] [(0,true)]=
  some ⟨.tup [.agg [.int .i64 k,.sl 0 0 a.length 1 none,.sl 1 0 b.length 1 none,.sl 2 0 c.length 1 none],.c (.bool false)],[.live (.ints .i64 a),.live (.ints .i64 b),.live (.bools c)],(decide (a.length≤274877906944)&&(decide (b.length≤274877906944)&&(decide (c.length≤274877906944)&&(decide (c.length=8)&&(decide (b.length=8)&&(decide (a.length=8)&&(bet k 1 2&&(a9 a&&((!rdS k a b c)&&true))))))))),[]⟩:=by kernel_rfl
theorem a4Q (k:Int) (a b:List Int) (c:List Bool) (l:Int):aG tt (aB xJ) ([]) 100 Tryz.f63 [.agg [.int .i64 k,.view none (.ints .i64 a) a.length 1 none,.view none (.ints .i64 b) b.length 1 none,.view none (.bools c) c.length 1 none],.c (.int .i64 l)] [] [(0,false),(0,true)]=
  some ⟨.tup [.agg [.int .i64 k,.sl 0 0 a.length 1 none,.sl 1 0 b.length 1 none,.sl 2 0 c.length 1 none],.c (.bool false)],[.live (.ints .i64 a),.live (.ints .i64 b),.live (.bools c)],(decide (a.length≤274877906944)&&(decide (b.length≤274877906944)&&(decide (c.length≤274877906944)&&(decide (c.length=8)&&(decide (b.length=8)&&(decide (a.length=8)&&(bet k 1 2&&(a9 a&&(!!rdS k a b c&&(decide (c.length≤274877906944)&&(decide (b.length=c.length)&&(decide ((ofL b c (rdN k a b c)).length=(ofL b c (rdN k a b c)).length)&&(bet k 1 2&&(bet l 0 7&&(aM (ofL b c (rdN k a b c))&&(decide ((ofL b c (rdN k a b c)).length≤8)&&((!isO (poR k l (ofL b c (rdN k a b c))))&&true))))))))))))))))),[]⟩:=by kernel_rfl
theorem a4R (k:Int) (a b:List Int) (c:List Bool) (l:Int):aG tt (aB xJ) ([]) 100 Tryz.f63 [.agg [.int .i64 k,.view none (.ints .i64 a) a.length 1 none,.view none (.ints .i64 b) b.length 1 none,.view none (.bools c) c.length 1 none],.c (.int .i64 l)] [] [(0,false),(0,false)]=
  some ⟨.tup [.agg [.int .i64 k,.sl 0 0 a.length 1 none,.sl 1 0 b.length 1 none,.sl 2 0 c.length 1 none],.c (.bool true)],[.live (.ints .i64 (a.set l.toNat (doL (ogL (poR k l (ofL b c (rdN k a b c))) []) (orB k l (poR k l (ofL b c (rdN k a b c))) []) a))),.live (.ints .i64 (b.set l.toNat (rdN k a b c))),.live (.bools (c.set l.toNat true))],(decide (a.length≤274877906944)&&(decide (b.length≤274877906944)&&(decide (c.length≤274877906944)&&(decide (c.length=8)&&(decide (b.length=8)&&(decide (a.length=8)&&(bet k 1 2&&(a9 a&&(!!rdS k a b c&&(decide (c.length≤274877906944)&&(decide (b.length=c.length)&&(decide ((ofL b c (rdN k a b c)).length=(ofL b c (rdN k a b c)).length)&&(bet k 1 2&&(bet l 0 7&&(aM (ofL b c (rdN k a b c))&&(decide ((ofL b c (rdN k a b c)).length≤8)&&(!!isO (poR k l (ofL b c (rdN k a b c)))&&(decide ((orB k l (poR k l (ofL b c (rdN k a b c))) []).length=(ogL (poR k l (ofL b c (rdN k a b c))) []).length)&&(decide (a.length=8)&&(decide ((ogL (poR k l (ofL b c (rdN k a b c))) []).length≤8)&&(a9 (orB k l (poR k l (ofL b c (rdN k a b c))) [])&&(a9 a&&(aM (ogL (poR k l (ofL b c (rdN k a b c))) [])&&((decide (0≤l)&&(decide (l<(↑a.length:Int))&&(decide (l.toNat<a.length)&&(decide (0≤l)&&(decide (l<(↑b.length:Int))&&(decide (l.toNat<b.length)&&(decide (0≤l)&&(decide (l<(↑c.length:Int))&&(decide (l.toNat<c.length)&&true)))))))))&&true)))))))))))))))))))))))),[]⟩:=by kernel_rfl
theorem a4S (k:Int) (a b:List Int) (c:List Bool) (l:Int):aG tt (aB xJ) ([]) 100 Tryz.f98 [.agg [.int .i64 k,.view none (.ints .i64 a) a.length 1 none,.view none (.ints .i64 b) b.length 1 none,.view none (.bools c) c.length 1 none],.c (.int .i64 l)] [] [(0,true)]=
  some ⟨.tup [.agg [.int .i64 k,.sl 0 0 a.length 1 none,.sl 1 0 b.length 1 none,.sl 2 0 c.length 1 none],.c (.bool false)],[.live (.ints .i64 a),.live (.ints .i64 b),.live (.bools c)],(decide (a.length≤274877906944)&&(decide (b.length≤274877906944)&&(decide (c.length≤274877906944)&&(bet k 1 2&&(decide (a.length=8)&&(a9 a&&(decide (b.length=8)&&(decide (c.length=8)&&(decide (mxL b≤1000)&&((!l2B k a b c)&&true)))))))))),[]⟩:=by kernel_rfl
theorem a4T (k:Int) (a b:List Int) (c:List Bool) (l:Int):aG tt (aB xJ) ([]) 100 Tryz.f98 [.agg [.int .i64 k,.view none (.ints .i64 a) a.length 1 none,.view none (.ints .i64 b) b.length 1 none,.view none (.bools c) c.length 1 none],.c (.int .i64 l)] [] [(0,false),(0,true)]=
  some ⟨.tup [.agg [.int .i64 k,.sl 0 0 a.length 1 none,.sl 1 0 b.length 1 none,.sl 2 0 c.length 1 none],.c (.bool false)],[.live (.ints .i64 a),.live (.ints .i64 b),.live (.bools c)],(decide (a.length≤274877906944)&&(decide (b.length≤274877906944)&&(decide (c.length≤274877906944)&&(bet k 1 2&&(decide (a.length=8)&&(a9 a&&(decide (b.length=8)&&(decide (c.length=8)&&(decide (mxL b≤1000)&&(!!l2B k a b c&&(decide (c.length≤274877906944)&&(decide (b.length=c.length)&&(decide (c.length=(aU b c (l2N k b c)).length)&&(bet k 1 2&&(bet l 0 7&&(decide ((aU b c (l2N k b c)).length=8)&&((!isO (ofR k l (aU b c (l2N k b c)) 4))&&true))))))))))))))))),[]⟩:=by kernel_rfl
theorem a4U (k:Int) (a b:List Int) (c:List Bool) (l:Int):aG tt (aB xJ) ([]) 100 Tryz.f98 [.agg [.int .i64 k,.view none (.ints .i64 a) a.length 1 none,.view none (.ints .i64 b) b.length 1 none,.view none (.bools c) c.length 1 none],.c (.int .i64 l)] [] [(0,false),(0,false)]=
  some ⟨.tup [.agg [.int .i64 k,.sl 0 0 a.length 1 none,.sl 1 0 b.length 1 none,.sl 2 0 c.length 1 none],.c (.bool true)],[.live (.ints .i64 (a.set l.toNat (doL (lsO (ofR k l (aU b c (l2N k b c)) 4)) (byO k l (ofR k l (aU b c (l2N k b c)) 4)) a))),.live (.ints .i64 (b.set l.toNat (l2N k b c))),.live (.bools (c.set l.toNat true))],(decide (a.length≤274877906944)&&(decide (b.length≤274877906944)&&(decide (c.length≤274877906944)&&(bet k 1 2&&(decide (a.length=8)&&(a9 a&&(decide (b.length=8)&&(decide (c.length=8)&&(decide (mxL b≤1000)&&(!!l2B k a b c&&(decide (c.length≤274877906944)&&(decide (b.length=c.length)&&(decide (c.length=(aU b c (l2N k b c)).length)&&(bet k 1 2&&(bet l 0 7&&(decide ((aU b c (l2N k b c)).length=8)&&(!!isO (ofR k l (aU b c (l2N k b c)) 4)&&(decide ((lsO (ofR k l (aU b c (l2N k b c)) 4)).length=(lsO (ofR k l (aU b c (l2N k b c)) 4)).length)&&(decide ((byO k l (ofR k l (aU b c (l2N k b c)) 4)).length=(byO k l (ofR k l (aU b c (l2N k b c)) 4)).length)&&(decide ((byO k l (ofR k l (aU b c (l2N k b c)) 4)).length=(lsO (ofR k l (aU b c (l2N k b c)) 4)).length)&&(decide (a.length=8)&&(decide ((lsO (ofR k l (aU b c (l2N k b c)) 4)).length≤8)&&(a9 (byO k l (ofR k l (aU b c (l2N k b c)) 4))&&(a9 a&&(aM (lsO (ofR k l (aU b c (l2N k b c)) 4))&&(decide (0≤l)&&(decide (l<(↑a.length:Int))&&(decide (l.toNat<a.length)&&(decide (0≤l)&&(decide (l<(↑b.length:Int))&&(decide (l.toNat<b.length)&&(decide (0≤l)&&(decide (l<(↑c.length:Int))&&((decide (l.toNat<c.length))&&true)))))))))))))))))))))))))))))))))),[]⟩:=by kernel_rfl
def mdB (k:Int) (a b:List Int) (c:List Bool) (l:Int):Bool:=bif rdS k a b c then isO (mdO k l b c (rdN k a b c))else false
def mdV (k:Int) (a b:List Int) (c:List Bool) (l:Int):Int:=doL (lsO (mdO k l b c (rdN k a b c))) (byO k l (mdO k l b c (rdN k a b c))) a
def mdA (k:Int) (a b:List Int) (c:List Bool) (l:Int):List Int:=bif mdB k a b c l then a.set l.toNat (mdV k a b c l)else a
def mdN (k:Int) (a b:List Int) (c:List Bool) (l:Int):List Int:=bif mdB k a b c l then b.set l.toNat (rdN k a b c)else b
def mdC (k:Int) (a b:List Int) (c:List Bool) (l:Int):List Bool:=bif mdB k a b c l then c.set l.toNat true else c
def EI:aQ:=fun args h=>
 match args,h with
 |[.agg [.int .i64 k,.view _ (.ints .i64 a) n1 1 _,.view _ (.ints .i64 b) n2 1 _,.view _ (.bools c) n3 1 _],.c (.int .i64 l)],[]=>
  some (.tup [.agg [.int .i64 k,.sl 0 0 (mdA k a b c l).length 1 none,.sl 1 0 (mdN k a b c l).length 1 none,.sl 2 0 (mdC k a b c l).length 1 none],.c (.bool (mdB k a b c l))],[.live (.ints .i64 (mdA k a b c l)),.live (.ints .i64 (mdN k a b c l)),.live (.bools (mdC k a b c l))],[bQ k a b c,bet l 0 7])
 |_,_=>none
theorem mMD:aV Tryz.prog 63 EI:=by
 intro args h res h' o hnorm he ho
 unfold EI at he
 split at he
 case h_2=>cases he
 rename_i k nl1 a n1 cap1 nl2 b n2 cap2 nl3 c n3 cap3 l
 simp only[Option.some.injEq,Prod.mk.injEq]at he
 obtain⟨rfl,rfl,rfl⟩:=he
 simp only[List.mem_cons,List.not_mem_nil,or_false,forall_eq_or_imp,forall_eq,decide_eq_true_eq]at ho
 obtain⟨o1,o2⟩:=ho
 simp only[bG,AV.norm,bI,aJ.norm,Con.size,List.cons.injEq,AV.c.injEq,AV.agg.injEq,aJ.view.injEq,aN,true_and,and_true]at hnorm
 obtain⟨⟨rfl,rfl,rfl⟩,⟨rfl,rfl,rfl⟩,rfl,rfl,rfl⟩:=hnorm
 have S:=eW.1 o1
 obtain⟨hk,ha,hb,hc,hf,-,-⟩:=S
 obtain⟨e1,e2⟩:=JR (l:=l) hk o2 (b:=b) hc (rdN k a b c)
 obtain⟨s1,s2⟩:=iY (b:=b) (vs:=rdN k a b c) hc
 have h2:=b8.1 o2
 cases h1:rdS k a b c with
 |false=>
  have eB:mdB k a b c l=false:=by unfold mdB;rw[h1];rfl
  simp only[mdA,mdN,mdC,eB,cond_false]
  exact a5 FS (by kernel_rfl) (by kernel_rfl) (a4P k a b c l) (by simp only[h1,hk,hf,bS];omega) (by simp) (fun cc _=>aF.nil)
 |true=>
  cases h3:mdO k l b c (rdN k a b c)with
  |none=>
   have eB:mdB k a b c l=false:=by unfold mdB;rw[h1,h3];rfl
   rw[h3]at e1
   simp only[mdA,mdN,mdC,eB,cond_false]
   exact a5 FS (by kernel_rfl) (by kernel_rfl) (a4Q k a b c l) (by simp only[h1,hk,hf,o2,s1,e1,isO,Option.isSome_none,bS];omega) (by simp) (fun cc _=>aF.nil)
  |some y=>
   have p:=e2 y h3
   have eB:mdB k a b c l=true:=by unfold mdB;rw[h1,h3];rfl
   have eV:mdV k a b c l=doL y (plA k l y) a:=by unfold mdV;rw[h3,p.same];rfl
   rw[h3]at e1
   simp only[mdA,mdN,mdC,eB,eV,cond_true]
   have e:=a4R k a b c l
   rw[e1]at e
   have q1:(orB k l (some y) []).length=(ogL (some y) []).length:=p.al
   have q2:(ogL (some y) ([]:List Int)).length≤8:=Nat.le_trans p.len (by decide)
   have q3:a9 (orB k l (some y) [])=true:=p.af
   have q4:aM (ogL (some y) [])=true:=p.shard
   have q5:isO (some y)=true:=rfl
   have m:=a5 (f:=63) FS (by kernel_rfl) (by kernel_rfl) e (by simp only[h1,hk,hf,o2,s1,q1,q2,q3,q4,q5,decide_true,bS];omega) (by simp) (fun cc _=>aF.nil)
   simp only[List.length_set]
   exact m
theorem mME:aV Tryz.prog 98 EI:=by
 intro args h res h' o hnorm he ho
 unfold EI at he
 split at he
 case h_2=>cases he
 rename_i k nl1 a n1 cap1 nl2 b n2 cap2 nl3 c n3 cap3 l
 simp only[Option.some.injEq,Prod.mk.injEq]at he
 obtain⟨rfl,rfl,rfl⟩:=he
 simp only[List.mem_cons,List.not_mem_nil,or_false,forall_eq_or_imp,forall_eq,decide_eq_true_eq]at ho
 obtain⟨o1,o2⟩:=ho
 simp only[bG,AV.norm,bI,aJ.norm,Con.size,List.cons.injEq,AV.c.injEq,AV.agg.injEq,aJ.view.injEq,aN,true_and,and_true]at hnorm
 obtain⟨⟨rfl,rfl,rfl⟩,⟨rfl,rfl,rfl⟩,rfl,rfl,rfl⟩:=hnorm
 have S:=eW.1 o1
 obtain⟨r1,r2,r3⟩:=S.rd
 obtain⟨m1,m2⟩:=S.mx
 obtain⟨hk,ha,hb,hc,hf,-,-⟩:=S
 obtain⟨e1,e2⟩:=JR (l:=l) hk o2 (b:=b) hc (rdN k a b c)
 have h2:=b8.1 o2
 have h8:(aU b c (rdN k a b c)).length=8:=by rw[bV,hc]
 cases h1:rdS k a b c with
 |false=>
  have eB:mdB k a b c l=false:=by unfold mdB;rw[h1];rfl
  simp only[mdA,mdN,mdC,eB,cond_false]
  exact a5 FS (by kernel_rfl) (by kernel_rfl) (a4S k a b c l) (by simp only[r3,h1,hk,hf,bS];omega) (by simp) (fun cc _=>aF.nil)
 |true=>
  cases h3:mdO k l b c (rdN k a b c)with
  |none=>
   have eB:mdB k a b c l=false:=by unfold mdB;rw[h1,h3];rfl
   unfold mdO at h3
   simp only[mdA,mdN,mdC,eB,cond_false]
   exact a5 FS (by kernel_rfl) (by kernel_rfl) (a4T k a b c l) (by simp only[r2,r3,h1,h3,h8,hk,hf,o2,isO,Option.isSome_none,bS];omega) (by simp) (fun cc _=>aF.nil)
  |some y=>
   have p:=e2 y h3
   have eB:mdB k a b c l=true:=by unfold mdB;rw[h1,h3];rfl
   have eV:mdV k a b c l=doL y (slA k l y) a:=by unfold mdV;rw[h3];simp only[byO,kC,lsO,Option.isSome_some,Option.getD_some,cond_true]
   have pl:=p.al
   have pf:=p.af
   rw[p.same]at pl pf
   unfold mdO at h3
   simp only[mdA,mdN,mdC,eB,eV,cond_true]
   have e:=a4U k a b c l
   have eb:byO k l (some y)=slA k l y:=by simp only[byO,kC,lsO,Option.isSome_some,Option.getD_some,cond_true]
   rw[r2,h3,eb,show lsO (some y)=y from rfl]at e
   have q2:y.length≤8:=Nat.le_trans p.len (by decide)
   have q4:=p.shard
   have q5:isO (some y)=true:=rfl
   have m:=a5 (f:=98) FS (by kernel_rfl) (by kernel_rfl) e (by simp only[r3,h1,h8,hk,hf,o2,pl,q2,pf,q4,q5,decide_true,bS];omega) (by simp) (fun cc _=>aF.nil)
   simp only[List.length_set]
   exact m
end
section
theorem RG:aS Tryz.prog 173 (dZ tt (aB T77) Tryz.f173 []):=d6 hT t77 bM _ (by kernel_rfl) (by kernel_rfl)
noncomputable def T83:List bF:=[⟨173,[],dZ tt (aB T77) Tryz.f173 []⟩]++T77
theorem e83:a8 Tryz.prog T83:=by
 refine a8.append ?_ e77
 intro e he
 simp only[List.mem_cons,List.not_mem_nil,or_false]at he
 subst he;exact RG
theorem t83:bN Tryz.prog (aB T83):=aP e83
theorem a81:aS Tryz.prog 127 (dZ tt (aB T83) Tryz.f127 []):=d6 hT t83 bM _ (by kernel_rfl) (by kernel_rfl)
noncomputable def T84:List bF:=[⟨127,[],dZ tt (aB T83) Tryz.f127 []⟩]++T83
theorem e84:a8 Tryz.prog T84:=by
 refine a8.append ?_ e83
 intro e he
 simp only[List.mem_cons,List.not_mem_nil,or_false]at he
 subst he;exact a81
theorem t84:bN Tryz.prog (aB T84):=aP e84
theorem a88:aS Tryz.prog 77 (dZ tt (aB T84) Tryz.f77 []):=d6 hT t84 bM _ (by kernel_rfl) (by kernel_rfl)
theorem a87:aS Tryz.prog 78 (dZ tt (aB T84) Tryz.f78 []):=d6 hT t84 bM _ (by kernel_rfl) (by kernel_rfl)
noncomputable def T85:List bF:=[⟨77,[0],dZ tt (aB T84) Tryz.f77 []⟩,⟨78,[0],dZ tt (aB T84) Tryz.f78 []⟩,⟨64,[],nm rI⟩]++T84
theorem e85:a8 Tryz.prog T85:=by
 refine a8.append ?_ e84
 intro e he
 simp only[List.mem_cons,List.not_mem_nil,or_false]at he
 rcases he with rfl|rfl|rfl
 ·exact a88
 ·exact a87
 ·exact m18.ok
theorem t85:bN Tryz.prog (aB T85):=aP e85
theorem a51 (k:Int) (v:List Int) (x:Int):aG tt (aB T85) ([]) 100 Tryz.f22 [.c (.int .i64 k),.c (.view none (.ints .i64 v) v.length 1 none),.c (.int .i64 x)] [] [(0,true)]=
  some ⟨.tup [.agg [.int .i64 0,.nils,.nils,.nils],.c (.bool false)],[],(decide (v.length≤274877906944)&&(!aC v 4&&(!aC v 4&&(!aC v 4&&((!aC v 4)&&true))))),[]⟩:=by kernel_rfl
theorem a52 (k:Int) (v:List Int) (x:Int):aG tt (aB T85) ([]) 100 Tryz.f22 [.c (.int .i64 k),.c (.view none (.ints .i64 v) v.length 1 none),.c (.int .i64 x)] [] [(0,false),(0,true)]=
  some ⟨.tup [.agg [.int .i64 0,.nils,.nils,.nils],.c (.bool false)],[],(decide (v.length≤274877906944)&&(!!aC v 4&&(!!aC v 4&&(!!aC v 4&&((bif !aC v 4 then true else !bet k 1 2)&&((bif !aC v 4 then true else !bet k 1 2)&&((bif !aC v 4 then true else !bet k 1 2)&&((bif !aC v 4 then true else !bet k 1 2)&&true)))))))),[]⟩:=by kernel_rfl
theorem a53 (k:Int) (v:List Int) (x:Int):aG tt (aB T85) ([]) 100 Tryz.f22 [.c (.int .i64 k),.c (.view none (.ints .i64 v) v.length 1 none),.c (.int .i64 x)] [] [(0,false),(0,false),(0,true)]=
  some ⟨.tup [.agg [.int .i64 0,.nils,.nils,.nils],.c (.bool false)],[],(decide (v.length≤274877906944)&&(!!aC v 4&&(!!aC v 4&&(!!aC v 4&&((!bif !aC v 4 then true else !bet k 1 2)&&((!bif !aC v 4 then true else !bet k 1 2)&&((!bif !aC v 4 then true else !bet k 1 2)&&((bif bif !aC v 4 then true else !bet k 1 2 then true else !bet x 1 99)&&true)))))))),[]⟩:=by kernel_rfl
theorem a54 (k:Int) (v:List Int) (x:Int):aG tt (aB T85) ([]) 100 Tryz.f22 [.c (.int .i64 k),.c (.view none (.ints .i64 v) v.length 1 none),.c (.int .i64 x)] [] [(0,false),(0,false),(0,false)]=
  some ⟨.tup [.agg [.int .i64 k,.sl 0 0 8 1 none,.sl 1 0 8 1 none,.sl 2 0 8 1 none],.c (.bool true)],[.live (.ints .i64 (fJ k [ifI (aC v 4) (v.getD 0 0),ifI (aC v 4) (v.getD 1 0),ifI (aC v 4) (v.getD 2 0),ifI (aC v 4) (v.getD 3 0)])),.live (.ints .i64 [x,x,x,x,x,x,x,x]),.live (.bools [true,true,true,true,true,true,true,true])],(decide (v.length≤274877906944)&&(!!aC v 4&&(!!aC v 4&&(!!aC v 4&&((!bif !aC v 4 then true else !bet k 1 2)&&((!bif !aC v 4 then true else !bet k 1 2)&&((!bif !aC v 4 then true else !bet k 1 2)&&((!bif bif !aC v 4 then true else !bet k 1 2 then true else !bet x 1 99)&&(bet k 1 2&&(fok (ifI (aC v 4) (v.getD 0 0))&&(fok (ifI (aC v 4) (v.getD 1 0))&&(fok (ifI (aC v 4) (v.getD 2 0))&&((fok (ifI (aC v 4) (v.getD 3 0)))&&true))))))))))))),[]⟩:=by kernel_rfl
theorem mSN:aV Tryz.prog 22 oU:=by
 intro args h res h' o hnorm he ho
 unfold oU at he
 split at he
 case h_2=>cases he
 rename_i k nl v n cap x
 simp only[Option.some.injEq,Prod.mk.injEq]at he
 obtain⟨rfl,rfl,rfl⟩:=he
 simp only[List.mem_cons,List.not_mem_nil,or_false,forall_eq_or_imp,forall_eq,decide_eq_true_eq]at ho
 simp only[bG,AV.norm,bI,aJ.norm,Con.size,List.cons.injEq,AV.c.injEq,AV.agg.injEq,aJ.view.injEq,aN,true_and,and_true]at hnorm
 obtain⟨rfl,rfl,rfl⟩:=hnorm
 unfold snK snB
 cases h2:aC v 4 with
 |false=>
  rw[Bool.false_and,Bool.and_false]
  exact pX (a5 t85 (by kernel_rfl) (by kernel_rfl) (a51 k v x) (by simp only[h2,ho,bS]) (by simp) (fun cc _=>aF.nil))
 |true=>
  cases h1:bet k 1 2 with
  |false=>exact pX (a5 t85 (by kernel_rfl) (by kernel_rfl) (a52 k v x) (by simp only[h1,h2,ho,bS]) (by simp) (fun cc _=>aF.nil))
  |true=>
   cases h3:bet x 1 99 with
   |false=>exact pX (a5 t85 (by kernel_rfl) (by kernel_rfl) (a53 k v x) (by simp only[h1,h2,h3,ho,bS]) (by simp) (fun cc _=>aF.nil))
   |true=>
    have e:=a54 k v x
    have ee:fJ k [ifI (aC v 4) (v.getD 0 0),ifI (aC v 4) (v.getD 1 0),ifI (aC v 4) (v.getD 2 0),ifI (aC v 4) (v.getD 3 0)]=fJ k v:=i6 h2
    rw[ee]at e
    exact a5 t85 (by kernel_rfl) (by kernel_rfl) e (by simp only[h1,h2,h3,ho,ifI,aR (gW h2).1,bS];try simp[dR]) (by simp) (fun cc _=>aF.nil)
theorem a55 (x:PK) (i:Int):aG tt (aB T85) ([]) 100 Tryz.f29 [.agg x.vcells,.c (.int .i64 i)] [] [(0,true)]=
  some ⟨.tup [.agg [.int .i64 (tbK x i).k,.sl 0 0 (tbK x i).a.length 1 none,.sl 1 0 (tbK x i).b.length 1 none,.sl 2 0 (tbK x i).c.length 1 none,.bool (tbK x i).on,.int .i64 (tbK x i).kd,.sl 3 0 (tbK x i).d.length 1 none,.int .i64 (tbK x i).vs],.c (.bool false)],[.live (.ints .i64 (tbK x i).a),.live (.ints .i64 (tbK x i).b),.live (.bools (tbK x i).c),.live (.ints .i64 (tbK x i).d)],(decide (x.7.length≤274877906944)&&((!tbB x i)&&true)),[]⟩:=by kernel_rfl
theorem a56 (x:PK) (i:Int):aG tt (aB T85) ([]) 100 Tryz.f29 [.agg x.vcells,.c (.int .i64 i)] [] [(0,false)]=
  some ⟨.tup [.agg [.int .i64 (bU (tbK x i)).k,.sl 0 0 (bU (tbK x i)).a.length 1 none,.sl 1 0 (bU (tbK x i)).b.length 1 none,.sl 2 0 (bU (tbK x i)).c.length 1 none,.bool (bU (tbK x i)).on,.int .i64 (bU (tbK x i)).kd,.sl 3 0 (bU (tbK x i)).d.length 1 none,.int .i64 (bU (tbK x i)).vs],.c (.bool true)],[.live (.ints .i64 (bU (tbK x i)).a),.live (.ints .i64 (bU (tbK x i)).b),.live (.bools (bU (tbK x i)).c),.live (.ints .i64 (bU (tbK x i)).d)],(decide (x.7.length≤274877906944)&&(!!tbB x i&&(decide ((tbK x i).a.length=(tbK x i).a.length)&&(decide ((tbK x i).b.length=(tbK x i).b.length)&&(decide ((tbK x i).c.length=(tbK x i).c.length)&&(decide ((tbK x i).d.length=(tbK x i).d.length)&&((decide ((tbK x i).d.length≤274877906944))&&true))))))),[]⟩:=by kernel_rfl
def PD:aQ:=fun args h=>
 match args,h with
 |[.agg [.int .i64 k,.view _ (.ints .i64 a) n1 1 _,.view _ (.ints .i64 b) n2 1 _,.view _ (.bools c) n3 1 _,.bool on,.int .i64 kd,.view _ (.ints .i64 d) n4 1 _,.int .i64 vs],.c (.int .i64 x)],[]=>
  some (.tup [.agg (taK ⟨k,a,b,c,on,kd,d,vs⟩ x).cells,.c (.bool (tbB ⟨k,a,b,c,on,kd,d,vs⟩ x))],[.live (.ints .i64 (taK ⟨k,a,b,c,on,kd,d,vs⟩ x).a),.live (.ints .i64 (taK ⟨k,a,b,c,on,kd,d,vs⟩ x).b),.live (.bools (taK ⟨k,a,b,c,on,kd,d,vs⟩ x).c),.live (.ints .i64 (taK ⟨k,a,b,c,on,kd,d,vs⟩ x).d)],[decide (d.length≤274877906944)])
 |_,_=>none
theorem mTA:aV Tryz.prog 29 PD:=by
 intro args h res h' o hnorm he ho
 unfold PD at he
 split at he
 case h_2=>cases he
 rename_i k nl1 a n1 cap1 nl2 b n2 cap2 nl3 c n3 cap3 on kd nl4 d n4 cap4 vs x
 simp only[Option.some.injEq,Prod.mk.injEq]at he
 obtain⟨rfl,rfl,rfl⟩:=he
 simp only[List.mem_cons,List.not_mem_nil,or_false,forall_eq_or_imp,forall_eq,decide_eq_true_eq]at ho
 have o1:=ho
 simp only[bG,AV.norm,bI,aJ.norm,Con.size,List.cons.injEq,AV.c.injEq,AV.agg.injEq,aJ.view.injEq,aN,true_and,and_true]at hnorm
 obtain⟨⟨rfl,rfl,rfl⟩,⟨rfl,rfl,rfl⟩,⟨rfl,rfl,rfl⟩,rfl,rfl,rfl⟩:=hnorm
 obtain⟨g1,g2,g3,g4⟩:=EH ⟨k,a,b,c,on,kd,d,vs⟩ x
 have q4:decide ((tbK ⟨k,a,b,c,on,kd,d,vs⟩ x).d.length≤274877906944)=true:=decide_eq_true (by omega)
 have q1:decide ((tbK ⟨k,a,b,c,on,kd,d,vs⟩ x).a.length≤274877906944)=true:=decide_eq_true (by omega)
 unfold taK
 cases h1:tbB ⟨k,a,b,c,on,kd,d,vs⟩ x with
 |false=>exact a5 t85 (by kernel_rfl) (by kernel_rfl) (a55 ⟨k,a,b,c,on,kd,d,vs⟩ x) (by simp only[h1,o1,q1,q4,decide_true,bS]) (by simp) (fun cc _=>aF.nil)
 |true=>exact a5 t85 (by kernel_rfl) (by kernel_rfl) (a56 ⟨k,a,b,c,on,kd,d,vs⟩ x) (by simp only[h1,o1,q1,q4,decide_true,bS]) (by simp) (fun cc _=>aF.nil)
theorem a57 (x:PK) (i:Int):aG tt (aB T85) ([]) 100 Tryz.f27 [.agg x.vcells,.c (.int .i64 i)] [] [(0,true)]=
  some ⟨.tup [.agg [.int .i64 (tbK x i).k,.sl 0 0 (tbK x i).a.length 1 none,.sl 1 0 (tbK x i).b.length 1 none,.sl 2 0 (tbK x i).c.length 1 none,.bool (tbK x i).on,.int .i64 (tbK x i).kd,.sl 3 0 (tbK x i).d.length 1 none,.int .i64 (tbK x i).vs],.c (.bool false)],[.live (.ints .i64 (tbK x i).a),.live (.ints .i64 (tbK x i).b),.live (.bools (tbK x i).c),.live (.ints .i64 (tbK x i).d)],(decide (x.2.length≤274877906944)&&(decide (x.7.length≤274877906944)&&((!tbB x i)&&true))),[]⟩:=by kernel_rfl
theorem a58 (x:PK) (i:Int):aG tt (aB T85) ([]) 100 Tryz.f27 [.agg x.vcells,.c (.int .i64 i)] [] [(0,false)]=
  some ⟨.tup [.agg [.int .i64 (bU (tbK x i)).k,.sl 0 0 (bU (tbK x i)).a.length 1 none,.sl 1 0 (bU (tbK x i)).b.length 1 none,.sl 2 0 (bU (tbK x i)).c.length 1 none,.bool (bU (tbK x i)).on,.int .i64 (bU (tbK x i)).kd,.sl 3 0 (bU (tbK x i)).d.length 1 none,.int .i64 (bU (tbK x i)).vs],.c (.bool true)],[.live (.ints .i64 (bU (tbK x i)).a),.live (.ints .i64 (bU (tbK x i)).b),.live (.bools (bU (tbK x i)).c),.live (.ints .i64 (bU (tbK x i)).d)],(decide (x.2.length≤274877906944)&&(decide (x.7.length≤274877906944)&&(!!tbB x i&&(decide ((tbK x i).a.length=(tbK x i).a.length)&&(decide ((tbK x i).b.length=(tbK x i).b.length)&&(decide ((tbK x i).c.length=(tbK x i).c.length)&&(decide ((tbK x i).d.length=(tbK x i).d.length)&&(decide ((tbK x i).a.length≤274877906944)&&((decide ((tbK x i).d.length≤274877906944))&&true))))))))),[]⟩:=by kernel_rfl
def PE:aQ:=fun args h=>
 match args,h with
 |[.agg [.int .i64 k,.view _ (.ints .i64 a) n1 1 _,.view _ (.ints .i64 b) n2 1 _,.view _ (.bools c) n3 1 _,.bool on,.int .i64 kd,.view _ (.ints .i64 d) n4 1 _,.int .i64 vs],.c (.int .i64 x)],[]=>
  some (.tup [.agg (taK ⟨k,a,b,c,on,kd,d,vs⟩ x).cells,.c (.bool (tbB ⟨k,a,b,c,on,kd,d,vs⟩ x))],[.live (.ints .i64 (taK ⟨k,a,b,c,on,kd,d,vs⟩ x).a),.live (.ints .i64 (taK ⟨k,a,b,c,on,kd,d,vs⟩ x).b),.live (.bools (taK ⟨k,a,b,c,on,kd,d,vs⟩ x).c),.live (.ints .i64 (taK ⟨k,a,b,c,on,kd,d,vs⟩ x).d)],[decide (a.length≤274877906944),decide (d.length≤274877906944)])
 |_,_=>none
theorem mTS:aV Tryz.prog 27 PE:=by
 intro args h res h' o hnorm he ho
 unfold PE at he
 split at he
 case h_2=>cases he
 rename_i k nl1 a n1 cap1 nl2 b n2 cap2 nl3 c n3 cap3 on kd nl4 d n4 cap4 vs x
 simp only[Option.some.injEq,Prod.mk.injEq]at he
 obtain⟨rfl,rfl,rfl⟩:=he
 simp only[List.mem_cons,List.not_mem_nil,or_false,forall_eq_or_imp,forall_eq,decide_eq_true_eq]at ho
 obtain⟨o1,o2⟩:=ho
 simp only[bG,AV.norm,bI,aJ.norm,Con.size,List.cons.injEq,AV.c.injEq,AV.agg.injEq,aJ.view.injEq,aN,true_and,and_true]at hnorm
 obtain⟨⟨rfl,rfl,rfl⟩,⟨rfl,rfl,rfl⟩,⟨rfl,rfl,rfl⟩,rfl,rfl,rfl⟩:=hnorm
 obtain⟨g1,g2,g3,g4⟩:=EH ⟨k,a,b,c,on,kd,d,vs⟩ x
 have q4:decide ((tbK ⟨k,a,b,c,on,kd,d,vs⟩ x).d.length≤274877906944)=true:=decide_eq_true (by omega)
 have q1:decide ((tbK ⟨k,a,b,c,on,kd,d,vs⟩ x).a.length≤274877906944)=true:=decide_eq_true (by omega)
 unfold taK
 cases h1:tbB ⟨k,a,b,c,on,kd,d,vs⟩ x with
 |false=>exact a5 t85 (by kernel_rfl) (by kernel_rfl) (a57 ⟨k,a,b,c,on,kd,d,vs⟩ x) (by simp only[h1,o1,o2,q1,q4,decide_true,bS]) (by simp) (fun cc _=>aF.nil)
 |true=>exact a5 t85 (by kernel_rfl) (by kernel_rfl) (a58 ⟨k,a,b,c,on,kd,d,vs⟩ x) (by simp only[h1,o1,o2,q1,q4,decide_true,bS]) (by simp) (fun cc _=>aF.nil)
theorem a45 (b:List Int):aG tt (aB T74) ([]) 100 Tryz.f41 [.c (.view none (.ints .u8 b) b.length 1 none)] [] []=
  some ⟨.tup [.agg [.int .i64 (dkQ b).1.1,.view none (.ints .i64 (dkQ b).1.2) (dkQ b).1.2.length 1 none,.view none (.ints .i64 (dkQ b).1.3) (dkQ b).1.3.length 1 none,.view none (.bools (dkQ b).1.4) (dkQ b).1.4.length 1 none,.bool (dkQ b).1.5,.int .i64 (dkQ b).1.6,.view none (.ints .i64 (dkQ b).1.7) (dkQ b).1.7.length 1 none,.int .i64 (dkQ b).1.8],.c (.int .i64 (dkK b))],[],((aZ b)&&true),[]⟩:=by kernel_rfl
theorem mDT:aV Tryz.prog 41 G8:=by
 intro args h res h' o hnorm he ho
 unfold G8 at he
 split at he
 case h_2=>cases he
 rename_i nl b n cap
 simp only[Option.some.injEq,Prod.mk.injEq]at he
 obtain⟨rfl,rfl,rfl⟩:=he
 simp only[List.mem_cons,List.not_mem_nil,or_false,forall_eq_or_imp,forall_eq,decide_eq_true_eq]at ho
 have o1:=ho
 simp only[bG,AV.norm,bI,aJ.norm,Con.size,List.cons.injEq,AV.c.injEq,AV.agg.injEq,aJ.view.injEq,aN,true_and,and_true]at hnorm
 obtain⟨rfl,rfl,rfl⟩:=hnorm
 exact a5 t74 (by kernel_rfl) (by kernel_rfl) (a45 b) (by simp[o1]) (by simp) (fun cc _=>aF.nil)
theorem a43 (b:List Int):aG tt (aB T72) ([]) 100 Tryz.f10 [.c (.view none (.ints .u8 b) b.length 1 none)] [] []=
  some ⟨.tup [.agg [.int .i64 (kdr (List.take 2000 b) 0).1.1,.view none (.ints .i64 (kdr (List.take 2000 b) 0).1.2) (kdr (List.take 2000 b) 0).1.2.length 1 none,.view none (.ints .i64 (kdr (List.take 2000 b) 0).1.3) (kdr (List.take 2000 b) 0).1.3.length 1 none,.view none (.bools (kdr (List.take 2000 b) 0).1.4) (kdr (List.take 2000 b) 0).1.4.length 1 none,.bool (kdr (List.take 2000 b) 0).1.5,.int .i64 (kdr (List.take 2000 b) 0).1.6,.view none (.ints .i64 (kdr (List.take 2000 b) 0).1.7) (kdr (List.take 2000 b) 0).1.7.length 1 none,.int .i64 (kdr (List.take 2000 b) 0).1.8],.c (.int .i64 (IntKind.i64.wrap (pk (List.take 2000 b) (kdr (List.take 2000 b) 0).snd 8+IntKind.i64.wrap (IntKind.i64.wrap ((pk (List.take 2000 b) ((kdr (List.take 2000 b) 0).snd+1) 24).tdiv 23)*8))))],[],(decide ((List.take 2000 b).length=(List.take 2000 b).length)&&(aZ (List.take 2000 b)&&(decide ((List.take 2000 b).length=(List.take 2000 b).length)&&(aZ (List.take 2000 b)&&(decide (0≤(kdr (List.take 2000 b) 0).snd)&&(decide ((kdr (List.take 2000 b) 0).snd≤1000000)&&(decide ((List.take 2000 b).length=(List.take 2000 b).length)&&(aZ (List.take 2000 b)&&(decide (0≤(kdr (List.take 2000 b) 0).snd+1)&&((decide ((kdr (List.take 2000 b) 0).snd+1≤1000000))&&true)))))))))),[]⟩:=by kernel_rfl
theorem mDL:aV Tryz.prog 10 v7:=by
 intro args h res h' o hnorm he ho
 unfold v7 at he
 split at he
 case h_2=>cases he
 rename_i nl b n cap
 simp only[Option.some.injEq,Prod.mk.injEq]at he
 obtain⟨rfl,rfl,rfl⟩:=he
 simp only[List.mem_cons,List.not_mem_nil,or_false,forall_eq_or_imp,forall_eq,decide_eq_true_eq]at ho
 have o1:=ho
 simp only[bG,AV.norm,bI,aJ.norm,Con.size,List.cons.injEq,AV.c.injEq,AV.agg.injEq,aJ.view.injEq,aN,true_and,and_true]at hnorm
 obtain⟨rfl,rfl,rfl⟩:=hnorm
 obtain⟨-,s2,s3⟩:=t0 (b.take 2000) (p:=0) (by omega)
 have h8:=cR (b.take 2000) (kdr (b.take 2000) 0).2 (x:=8) (by omega)
 have h24:=cR (b.take 2000) ((kdr (b.take 2000) 0).2+1) (x:=24) (by omega)
 have e:=a43 b
 rw[oJ h24.1,aE (i:=pk (b.take 2000) ((kdr (b.take 2000) 0).2+1) 24/23) (by omega) (by omega),aE (i:=pk (b.take 2000) ((kdr (b.take 2000) 0).2+1) 24/23*8) (by omega) (by omega),aE (by omega) (by omega)]at e
 exact a5 t72 (by kernel_rfl) (by kernel_rfl) e (by simp only[g7 o1,bS];omega) (by simp) (fun cc _=>aF.nil)
theorem a44 (b:List Int):aG tt (aB T72) ([]) 100 Tryz.f44 [.c (.view none (.ints .u8 b) b.length 1 none)] [] []=
  some ⟨.tup [.agg [.int .i64 (kdr (List.take 2000 b) 0).1.1,.view none (.ints .i64 (kdr (List.take 2000 b) 0).1.2) (kdr (List.take 2000 b) 0).1.2.length 1 none,.view none (.ints .i64 (kdr (List.take 2000 b) 0).1.3) (kdr (List.take 2000 b) 0).1.3.length 1 none,.view none (.bools (kdr (List.take 2000 b) 0).1.4) (kdr (List.take 2000 b) 0).1.4.length 1 none,.bool (kdr (List.take 2000 b) 0).1.5,.int .i64 (kdr (List.take 2000 b) 0).1.6,.view none (.ints .i64 (kdr (List.take 2000 b) 0).1.7) (kdr (List.take 2000 b) 0).1.7.length 1 none,.int .i64 (kdr (List.take 2000 b) 0).1.8],.c (.int .i64 (IntKind.i64.wrap (pk (List.take 2000 b) (kdr (List.take 2000 b) 0).snd 8+IntKind.i64.wrap (IntKind.i64.wrap ((pk (List.take 2000 b) ((kdr (List.take 2000 b) 0).snd+1) 24).tdiv 23)*8))))],[],(decide ((List.take 2000 b).length=(List.take 2000 b).length)&&(aZ (List.take 2000 b)&&(decide ((List.take 2000 b).length=(List.take 2000 b).length)&&(aZ (List.take 2000 b)&&(decide (0≤(kdr (List.take 2000 b) 0).snd)&&(decide ((kdr (List.take 2000 b) 0).snd≤1000000)&&(decide ((List.take 2000 b).length=(List.take 2000 b).length)&&(aZ (List.take 2000 b)&&(decide (0≤(kdr (List.take 2000 b) 0).snd+1)&&((decide ((kdr (List.take 2000 b) 0).snd+1≤1000000))&&true)))))))))),[]⟩:=by kernel_rfl
theorem mDM:aV Tryz.prog 44 v7:=by
 intro args h res h' o hnorm he ho
 unfold v7 at he
 split at he
 case h_2=>cases he
 rename_i nl b n cap
 simp only[Option.some.injEq,Prod.mk.injEq]at he
 obtain⟨rfl,rfl,rfl⟩:=he
 simp only[List.mem_cons,List.not_mem_nil,or_false,forall_eq_or_imp,forall_eq,decide_eq_true_eq]at ho
 have o1:=ho
 simp only[bG,AV.norm,bI,aJ.norm,Con.size,List.cons.injEq,AV.c.injEq,AV.agg.injEq,aJ.view.injEq,aN,true_and,and_true]at hnorm
 obtain⟨rfl,rfl,rfl⟩:=hnorm
 obtain⟨-,s2,s3⟩:=t0 (b.take 2000) (p:=0) (by omega)
 have h8:=cR (b.take 2000) (kdr (b.take 2000) 0).2 (x:=8) (by omega)
 have h24:=cR (b.take 2000) ((kdr (b.take 2000) 0).2+1) (x:=24) (by omega)
 have e:=a44 b
 rw[oJ h24.1,aE (i:=pk (b.take 2000) ((kdr (b.take 2000) 0).2+1) 24/23) (by omega) (by omega),aE (i:=pk (b.take 2000) ((kdr (b.take 2000) 0).2+1) 24/23*8) (by omega) (by omega),aE (by omega) (by omega)]at e
 exact a5 t72 (by kernel_rfl) (by kernel_rfl) e (by simp only[g7 o1,bS];omega) (by simp) (fun cc _=>aF.nil)
noncomputable def T86:List bF:=[⟨22,[],nm oU⟩,⟨29,[],nm PD⟩,⟨27,[],nm PE⟩,⟨41,[],nm G8⟩,⟨10,[],nm v7⟩,⟨44,[],nm v7⟩]++T85
theorem e86:a8 Tryz.prog T86:=by
 refine a8.append ?_ e85
 intro e he
 simp only[List.mem_cons,List.not_mem_nil,or_false]at he
 rcases he with rfl|rfl|rfl|rfl|rfl|rfl
 ·exact mSN.ok
 ·exact mTA.ok
 ·exact mTS.ok
 ·exact mDT.ok
 ·exact mDL.ok
 ·exact mDM.ok
end
section
noncomputable def sF:List bF:=[⟨63,[],nm EI⟩,⟨98,[],nm EI⟩,⟨105,[],nm DE⟩]++xJ
theorem a5D:a8 Tryz.prog sF:=by
 refine a8.append ?_ WU
 intro e he
 simp only[List.mem_cons,List.not_mem_nil,or_false]at he
 rcases he with rfl|rfl|rfl
 ·exact mMD.ok
 ·exact mME.ok
 ·exact m52.ok
theorem yF:bN Tryz.prog (aB sF):=aP a5D
theorem a49 (x:PK) (i:Int):aG tt (aB sF) ([]) 100 Tryz.f15 [.agg x.vcells,.c (.int .i64 i)] [] [(0,true)]=
  some ⟨.tup [.agg [.int .i64 0,.nils,.nils,.nils,.bool false,.int .i64 0,.nils,.int .i64 0],.c (.bool false)],[],(decide (x.7.length≤274877906944)&&(!aO x.1 x.2 x.3 x.4 x.5 x.6 x.7 x.8&&(!aO x.1 x.2 x.3 x.4 x.5 x.6 x.7 x.8&&(!aO x.1 x.2 x.3 x.4 x.5 x.6 x.7 x.8&&((!aO x.1 x.2 x.3 x.4 x.5 x.6 x.7 x.8)&&true))))),[]⟩:=by kernel_rfl
theorem a4A (x:PK) (i:Int):aG tt (aB sF) ([]) 100 Tryz.f15 [.agg x.vcells,.c (.int .i64 i)] [] [(0,false),(0,true)]=
  some ⟨.tup [.agg [.int .i64 0,.nils,.nils,.nils,.bool false,.int .i64 0,.nils,.int .i64 0],.c (.bool false)],[],(decide (x.7.length≤274877906944)&&(!!aO x.1 x.2 x.3 x.4 x.5 x.6 x.7 x.8&&(!!aO x.1 x.2 x.3 x.4 x.5 x.6 x.7 x.8&&(!!aO x.1 x.2 x.3 x.4 x.5 x.6 x.7 x.8&&((bif !aO x.1 x.2 x.3 x.4 x.5 x.6 x.7 x.8 then true else !bet i 0 7)&&true))))),[]⟩:=by kernel_rfl
theorem a4B (x:PK) (i:Int):aG tt (aB sF) ([]) 100 Tryz.f15 [.agg x.vcells,.c (.int .i64 i)] [] [(0,false),(0,false),(0,true)]=
  some ⟨.tup [.agg [.int .i64 (dG x i).k,.sl 0 0 (dG x i).a.length 1 none,.sl 1 0 (dG x i).b.length 1 none,.sl 2 0 (dG x i).c.length 1 none,.bool (dG x i).on,.int .i64 (dG x i).kd,.sl 3 0 (dG x i).d.length 1 none,.int .i64 (dG x i).vs],.c (.bool (pQ x i))],[.live (.ints .i64 (dG x i).a),.live (.ints .i64 (dG x i).b),.live (.bools (dG x i).c),.live (.ints .i64 (dG x i).d)],(decide (x.7.length≤274877906944)&&(!!aO x.1 x.2 x.3 x.4 x.5 x.6 x.7 x.8&&(!!aO x.1 x.2 x.3 x.4 x.5 x.6 x.7 x.8&&(!!aO x.1 x.2 x.3 x.4 x.5 x.6 x.7 x.8&&((!bif !aO x.1 x.2 x.3 x.4 x.5 x.6 x.7 x.8 then true else !bet i 0 7)&&((x.5)&&((decide (x.7.length≤274877906944))&&true))))))),[]⟩:=by kernel_rfl
theorem a4C (x:PK) (i:Int):aG tt (aB sF) ([]) 100 Tryz.f15 [.agg x.vcells,.c (.int .i64 i)] [] [(0,false),(0,false),(0,false)]=
  some ⟨.tup [.agg [.int .i64 x.1,.sl 0 0 (mdA x.1 x.2 x.3 x.4 i).length 1 none,.sl 1 0 (mdN x.1 x.2 x.3 x.4 i).length 1 none,.sl 2 0 (mdC x.1 x.2 x.3 x.4 i).length 1 none,.bool x.5,.int .i64 x.6,.sl 3 0 x.7.length 1 none,.int .i64 x.8],.c (.bool (mdB x.1 x.2 x.3 x.4 i))],[.live (.ints .i64 (mdA x.1 x.2 x.3 x.4 i)),.live (.ints .i64 (mdN x.1 x.2 x.3 x.4 i)),.live (.bools (mdC x.1 x.2 x.3 x.4 i)),.live (.ints .i64 x.7)],(decide (x.7.length≤274877906944)&&(!!aO x.1 x.2 x.3 x.4 x.5 x.6 x.7 x.8&&(!!aO x.1 x.2 x.3 x.4 x.5 x.6 x.7 x.8&&(!!aO x.1 x.2 x.3 x.4 x.5 x.6 x.7 x.8&&((!bif !aO x.1 x.2 x.3 x.4 x.5 x.6 x.7 x.8 then true else !bet i 0 7)&&((!x.5)&&(decide (x.2.length≤274877906944)&&(decide (x.3.length≤274877906944)&&(decide (x.4.length≤274877906944)&&(decide (x.7.length≤274877906944)&&(bQ x.1 x.2 x.3 x.4&&((bet i 0 7)&&true)))))))))))),[]⟩:=by kernel_rfl
theorem a4D (x:PK) (i:Int):aG tt (aB sF) ([]) 100 Tryz.f43 [.agg x.vcells,.c (.int .i64 i)] [] [(0,true)]=
  some ⟨.tup [.agg [.int .i64 0,.nils,.nils,.nils,.bool false,.int .i64 0,.nils,.int .i64 0],.c (.bool false)],[],(decide (x.2.length≤274877906944)&&(decide (x.7.length≤274877906944)&&(!aO x.1 x.2 x.3 x.4 x.5 x.6 x.7 x.8&&(!aO x.1 x.2 x.3 x.4 x.5 x.6 x.7 x.8&&(!aO x.1 x.2 x.3 x.4 x.5 x.6 x.7 x.8&&((!aO x.1 x.2 x.3 x.4 x.5 x.6 x.7 x.8)&&true)))))),[]⟩:=by kernel_rfl
theorem a4E (x:PK) (i:Int):aG tt (aB sF) ([]) 100 Tryz.f43 [.agg x.vcells,.c (.int .i64 i)] [] [(0,false),(0,true)]=
  some ⟨.tup [.agg [.int .i64 0,.nils,.nils,.nils,.bool false,.int .i64 0,.nils,.int .i64 0],.c (.bool false)],[],(decide (x.2.length≤274877906944)&&(decide (x.7.length≤274877906944)&&(!!aO x.1 x.2 x.3 x.4 x.5 x.6 x.7 x.8&&(!!aO x.1 x.2 x.3 x.4 x.5 x.6 x.7 x.8&&(!!aO x.1 x.2 x.3 x.4 x.5 x.6 x.7 x.8&&((bif !aO x.1 x.2 x.3 x.4 x.5 x.6 x.7 x.8 then true else !bet i 0 7)&&true)))))),[]⟩:=by kernel_rfl
theorem a4F (x:PK) (i:Int):aG tt (aB sF) ([]) 100 Tryz.f43 [.agg x.vcells,.c (.int .i64 i)] [] [(0,false),(0,false),(0,true)]=
  some ⟨.tup [.agg [.int .i64 (shR x i).k,.sl 0 0 (shR x i).a.length 1 none,.sl 1 0 (shR x i).b.length 1 none,.sl 2 0 (shR x i).c.length 1 none,.bool (shR x i).on,.int .i64 (shR x i).kd,.sl 3 0 (shR x i).d.length 1 none,.int .i64 (shR x i).vs],.c (.bool true)],[.live (.ints .i64 (shR x i).a),.live (.ints .i64 (shR x i).b),.live (.bools (shR x i).c),.live (.ints .i64 (shR x i).d)],(decide (x.2.length≤274877906944)&&(decide (x.7.length≤274877906944)&&(!!aO x.1 x.2 x.3 x.4 x.5 x.6 x.7 x.8&&(!!aO x.1 x.2 x.3 x.4 x.5 x.6 x.7 x.8&&(!!aO x.1 x.2 x.3 x.4 x.5 x.6 x.7 x.8&&((!bif !aO x.1 x.2 x.3 x.4 x.5 x.6 x.7 x.8 then true else !bet i 0 7)&&((x.5)&&(decide (x.2.length=8)&&(decide (x.3.length=8)&&(decide (x.4.length=8)&&(bet x.6 1 2&&(aC x.7 4&&((bet i 0 7)&&true))))))))))))),[]⟩:=by kernel_rfl
theorem a4G (x:PK) (i:Int):aG tt (aB sF) ([]) 100 Tryz.f43 [.agg x.vcells,.c (.int .i64 i)] [] [(0,false),(0,false),(0,false),(0,true)]=
  some ⟨.tup [.agg [.int .i64 x.1,.sl 0 0 (mdA x.1 x.2 x.3 x.4 i).length 1 none,.sl 1 0 (mdN x.1 x.2 x.3 x.4 i).length 1 none,.sl 2 0 (mdC x.1 x.2 x.3 x.4 i).length 1 none,.bool x.5,.int .i64 x.6,.sl 3 0 x.7.length 1 none,.int .i64 x.8],.c (.bool (mdB x.1 x.2 x.3 x.4 i))],[.live (.ints .i64 (mdA x.1 x.2 x.3 x.4 i)),.live (.ints .i64 (mdN x.1 x.2 x.3 x.4 i)),.live (.bools (mdC x.1 x.2 x.3 x.4 i)),.live (.ints .i64 x.7)],(decide (x.2.length≤274877906944)&&(decide (x.7.length≤274877906944)&&(!!aO x.1 x.2 x.3 x.4 x.5 x.6 x.7 x.8&&(!!aO x.1 x.2 x.3 x.4 x.5 x.6 x.7 x.8&&(!!aO x.1 x.2 x.3 x.4 x.5 x.6 x.7 x.8&&((!bif !aO x.1 x.2 x.3 x.4 x.5 x.6 x.7 x.8 then true else !bet i 0 7)&&((!x.5)&&(decide (x.2.length≤274877906944)&&(decide (x.3.length≤274877906944)&&(decide (x.4.length≤274877906944)&&(decide (x.7.length≤274877906944)&&(bQ x.1 x.2 x.3 x.4&&(bet i 0 7&&((mdB x.1 x.2 x.3 x.4 i)&&true)))))))))))))),[]⟩:=by kernel_rfl
theorem a4H (x:PK) (i:Int):aG tt (aB sF) ([]) 100 Tryz.f43 [.agg x.vcells,.c (.int .i64 i)] [] [(0,false),(0,false),(0,false),(0,false)]=
  some ⟨.tup [.agg [.int .i64 x.1,.sl 0 0 x.2.length 1 none,.sl 1 0 x.3.length 1 none,.sl 2 0 x.4.length 1 none,.bool x.5,.int .i64 x.6,.sl 3 0 x.7.length 1 none,.int .i64 x.8],.c (.bool (mdB x.1 x.2 x.3 x.4 i))],[.live (.ints .i64 x.2),.live (.ints .i64 x.3),.live (.bools x.4),.live (.ints .i64 x.7)],(decide (x.2.length≤274877906944)&&(decide (x.7.length≤274877906944)&&(!!aO x.1 x.2 x.3 x.4 x.5 x.6 x.7 x.8&&(!!aO x.1 x.2 x.3 x.4 x.5 x.6 x.7 x.8&&(!!aO x.1 x.2 x.3 x.4 x.5 x.6 x.7 x.8&&((!bif !aO x.1 x.2 x.3 x.4 x.5 x.6 x.7 x.8 then true else !bet i 0 7)&&((!x.5)&&(decide (x.2.length≤274877906944)&&(decide (x.3.length≤274877906944)&&(decide (x.4.length≤274877906944)&&(decide (x.7.length≤274877906944)&&(bQ x.1 x.2 x.3 x.4&&(bet i 0 7&&((!mdB x.1 x.2 x.3 x.4 i)&&true)))))))))))))),[]⟩:=by kernel_rfl
def mdK (x:PK) (i:Int):PK:=⟨x.k,mdA x.k x.a x.b x.c i,mdN x.k x.a x.b x.c i,mdC x.k x.a x.b x.c i,x.on,x.kd,x.d,x.vs⟩
def fD (x:PK) (i:Int):PK:=bif x.ok&&bet i 0 7 then(bif x.on then shR x i else mdK x i)else PK0
def kM (x:PK) (i:Int):Bool:=bif x.ok&&bet i 0 7 then(bif x.on then true else mdB x.k x.a x.b x.c i)else false
def KM:aQ:=fun args h=>
 match args,h with
 |[.agg [.int .i64 k,.view _ (.ints .i64 a) n1 1 _,.view _ (.ints .i64 b) n2 1 _,.view _ (.bools c) n3 1 _,.bool on,.int .i64 kd,.view _ (.ints .i64 d) n4 1 _,.int .i64 vs],.c (.int .i64 x)],[]=>
  some (.tup [.agg (fD ⟨k,a,b,c,on,kd,d,vs⟩ x).cells,.c (.bool (kM ⟨k,a,b,c,on,kd,d,vs⟩ x))],[.live (.ints .i64 (fD ⟨k,a,b,c,on,kd,d,vs⟩ x).a),.live (.ints .i64 (fD ⟨k,a,b,c,on,kd,d,vs⟩ x).b),.live (.bools (fD ⟨k,a,b,c,on,kd,d,vs⟩ x).c),.live (.ints .i64 (fD ⟨k,a,b,c,on,kd,d,vs⟩ x).d)],[decide (a.length≤274877906944),decide (d.length≤274877906944)])
 |_,_=>none
theorem mKM:aV Tryz.prog 15 KM:=by
 intro args h res h' o hnorm he ho
 unfold KM at he
 split at he
 case h_2=>cases he
 rename_i k nl1 a n1 cap1 nl2 b n2 cap2 nl3 c n3 cap3 on kd nl4 d n4 cap4 vs x
 simp only[Option.some.injEq,Prod.mk.injEq]at he
 obtain⟨rfl,rfl,rfl⟩:=he
 simp only[List.mem_cons,List.not_mem_nil,or_false,forall_eq_or_imp,forall_eq,decide_eq_true_eq]at ho
 obtain⟨o1,o2⟩:=ho
 simp only[bG,AV.norm,bI,aJ.norm,Con.size,List.cons.injEq,AV.c.injEq,AV.agg.injEq,aJ.view.injEq,aN,true_and,and_true]at hnorm
 obtain⟨⟨rfl,rfl,rfl⟩,⟨rfl,rfl,rfl⟩,⟨rfl,rfl,rfl⟩,rfl,rfl,rfl⟩:=hnorm
 unfold fD kM
 cases h1:(⟨k,a,b,c,on,kd,d,vs⟩:PK).ok with
 |false=>
  have h1':aO k a b c on kd d vs=false:=h1
  exact gR (a5 yF (by kernel_rfl) (by kernel_rfl) (a49 ⟨k,a,b,c,on,kd,d,vs⟩ x) (by simp only[h1',o2,decide_true,bS]) (by simp) (fun cc _=>aF.nil))
 |true=>
  have h1':aO k a b c on kd d vs=true:=h1
  cases h2:bet x 0 7 with
  |false=>exact gR (a5 yF (by kernel_rfl) (by kernel_rfl) (a4A ⟨k,a,b,c,on,kd,d,vs⟩ x) (by simp only[h1',h2,o2,decide_true,bS]) (by simp) (fun cc _=>aF.nil))
  |true=>
   cases on with
   |true=>
    have e:=a4B ⟨k,a,b,c,true,kd,d,vs⟩ x
    have e1:dG ⟨k,a,b,c,true,kd,d,vs⟩ x=shR ⟨k,a,b,c,true,kd,d,vs⟩ x:=by rw[FR h1 h2];rfl
    have e2:pQ ⟨k,a,b,c,true,kd,d,vs⟩ x=true:=FQ h1 rfl h2
    rw[e1,e2]at e
    exact a5 yF (by kernel_rfl) (by kernel_rfl) e (by simp only[h1',h2,o2,decide_true,bS]) (by simp) (fun cc _=>aF.nil)
   |false=>
    have K:=PK.offK h1 rfl
    have hs:=eW.2 K.s
    obtain⟨-,ha,hb,hc,-,-,-⟩:=K.s
    dsimp only at hs ha hb hc
    exact a5 yF (by kernel_rfl) (by kernel_rfl) (a4C ⟨k,a,b,c,false,kd,d,vs⟩ x) (by simp only[h1',h2,hs,o2,decide_true,bS];omega) (by simp) (fun cc _=>aF.nil)
theorem mKN:aV Tryz.prog 43 KM:=by
 intro args h res h' o hnorm he ho
 unfold KM at he
 split at he
 case h_2=>cases he
 rename_i k nl1 a n1 cap1 nl2 b n2 cap2 nl3 c n3 cap3 on kd nl4 d n4 cap4 vs x
 simp only[Option.some.injEq,Prod.mk.injEq]at he
 obtain⟨rfl,rfl,rfl⟩:=he
 simp only[List.mem_cons,List.not_mem_nil,or_false,forall_eq_or_imp,forall_eq,decide_eq_true_eq]at ho
 obtain⟨o1,o2⟩:=ho
 simp only[bG,AV.norm,bI,aJ.norm,Con.size,List.cons.injEq,AV.c.injEq,AV.agg.injEq,aJ.view.injEq,aN,true_and,and_true]at hnorm
 obtain⟨⟨rfl,rfl,rfl⟩,⟨rfl,rfl,rfl⟩,⟨rfl,rfl,rfl⟩,rfl,rfl,rfl⟩:=hnorm
 unfold fD kM
 cases h1:(⟨k,a,b,c,on,kd,d,vs⟩:PK).ok with
 |false=>
  have h1':aO k a b c on kd d vs=false:=h1
  exact gR (a5 yF (by kernel_rfl) (by kernel_rfl) (a4D ⟨k,a,b,c,on,kd,d,vs⟩ x) (by simp only[h1',o1,o2,decide_true,bS]) (by simp) (fun cc _=>aF.nil))
 |true=>
  have h1':aO k a b c on kd d vs=true:=h1
  cases h2:bet x 0 7 with
  |false=>exact gR (a5 yF (by kernel_rfl) (by kernel_rfl) (a4E ⟨k,a,b,c,on,kd,d,vs⟩ x) (by simp only[h1',h2,o1,o2,decide_true,bS]) (by simp) (fun cc _=>aF.nil))
  |true=>
   cases on with
   |true=>
    have K:=PK.onK h1 rfl
    have q1:=K.ha
    have q2:=K.hb
    have q3:=K.hc
    have q4:=K.hkd
    have q5:=K.hd
    dsimp only at q1 q2 q3 q4 q5
    exact a5 yF (by kernel_rfl) (by kernel_rfl) (a4F ⟨k,a,b,c,true,kd,d,vs⟩ x) (by simp only[h1',h2,q4,q5,o1,o2,decide_true,bS];omega) (by simp) (fun cc _=>aF.nil)
   |false=>
    have K:=PK.offK h1 rfl
    have hs:=eW.2 K.s
    obtain⟨-,ha,hb,hc,-,-,-⟩:=K.s
    dsimp only at hs ha hb hc
    rcases Bool.eq_false_or_eq_true (mdB k a b c x)with h3|h3
    ·exact a5 yF (by kernel_rfl) (by kernel_rfl) (a4G ⟨k,a,b,c,false,kd,d,vs⟩ x) (by simp only[h1',h2,h3,hs,o1,o2,decide_true,bS];omega) (by simp) (fun cc _=>aF.nil)
    ·have e:=a4H ⟨k,a,b,c,false,kd,d,vs⟩ x
     have eA:mdA k a b c x=a:=by unfold mdA;rw[h3];rfl
     have eN:mdN k a b c x=b:=by unfold mdN;rw[h3];rfl
     have eC:mdC k a b c x=c:=by unfold mdC;rw[h3];rfl
     simp only[mdK,eA,eN,eC]
     exact a5 yF (by kernel_rfl) (by kernel_rfl) e (by simp only[h1',h2,h3,hs,o1,o2,decide_true,bS];omega) (by simp) (fun cc _=>aF.nil)
end
end Go.Proofs.YthapjdpkelihiaaGreat.Am
