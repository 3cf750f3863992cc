/- DERIVED. Part 1 of the proof: Am10, Am11, Am12, Am38, Am13, Am37, Am14, Am15, Am16, Am17, Am18. No statement of the program is proved here. -/
import Derived.Test.YthapjdpkelihiaaGreatX00
import Derived.ChangeKeysEq
import Derived.LoopN
set_option linter.unusedSimpArgs false
set_option linter.unusedVariables false
set_option linter.unusedSectionVars false
namespace Go.Proofs.YthapjdpkelihiaaGreat.Am
section
variable {X : Nat → Prop}
section
variable {P : Program} {tt : Tab} (hT : iV P tt) {w0 w : World} {M : Nat → Prop} {h : List aW} {ρ : Rho} (m : Mem X w0 M h ρ w)
 {get:Get} (hg: ∀id c,get id=.live c→Heap.get h id=.live c) {base:Nat} (hb:Heap.get h base=.unborn) (hbl:base<h.length)
include m
theorem d5.one {id:Nat} {c:Con} (hs:Heap.get h id=.live c):d5 X w0 M h ρ w [(id,.dead)] (upd ρ id .dead):=by
 obtain⟨a,b⟩:=m.kill (id:=id) (by rw[hs];simp)
 exact⟨a,by simpa [cV]using b,fun j hj=>bG _ _ (fun e=>hj _ (by subst e;exact List.mem_singleton.2 rfl))⟩
theorem nG {a b r:List Value} {c' c cx:Con} (happ:c'.size=c.size+cx.size∧(∀q,q<c.size→c'.cell q=c.cell q)∧ ∀q,c'.cell (c.size+q)=cx.cell q)
  (h1:a.length=c.size) (ha: ∀q,q<c.size→CR X w ρ (c.cell q) (a.getD q undef)) (hx: ∀q,q<cx.size→CR X w ρ (cx.cell q) (b.getD q undef)) (hbl:cx.size≤b.length):
  ∀q,q<c'.size→CR X w ρ (c'.cell q) ((a++b++r).getD q undef):=by
 intro q hq
 rw[happ.1]at hq
 by_cases h2:q<c.size
 ·rw[happ.2.1 q h2]
  have:=ha q h2
  have h3:q<a.length:=by omega
  simpa [List.getD_eq_getElem?_getD,List.getElem?_append,h3,List.append_assoc]using this
 ·have e:q=c.size+(q-c.size):=by omega
  rw[e,happ.2.2]
  have h5:q-c.size<cx.size:=by omega
  have:=hx (q-c.size) h5
  have h3: ¬c.size+(q-c.size)<a.length:=by omega
  have h4:c.size+(q-c.size)-a.length=q-c.size:=by omega
  have h6:q-c.size<b.length:=by omega
  simpa [List.getD_eq_getElem?_getD,List.getElem?_append,h3,h4,h6,List.append_assoc]using this
include hT hg hb hbl in
theorem CJ {t u ty:Nat} {x y:AV} {v vy:Value} (hx:AVR X w ρ x v) (hy:AVR X w ρ y vy) {e:Eff} (he:wZ tt get base t u x y=some e) (ho: ∀b∈e.obl,b=true):
  Res X P w0 M h ρ w e (Builtin.append_ #[t,u] ty #[v,vy]):=by
 unfold wZ at he
 replace he:=Option.bind_eq_some_iff.1 he
 obtain⟨ti,hti,he⟩:=he
 replace he:=Option.bind_eq_some_iff.1 he
 obtain⟨ui,hui,he⟩:=he
 obtain⟨i,z,d,k⟩:=bR hT hti
 obtain⟨i2,z2,d2,k2⟩:=bR hT hui
 have hdesc:=k.desc
 have hdesc2:=k2.desc
 split at he
 ·rename_i e' e2' s xx hfs hfu
  rw[hfs]at hdesc
  rw[hfu]at hdesc2
  cases d<;>simp only[fU]at hdesc<;>try (simp at hdesc;done)
  rename_i e1
  simp only[Bool.and_eq_true,rpS,decide_eq_true_eq]at hdesc
  obtain⟨hee,hag⟩:=hdesc
  subst hee
  cases d2<;>simp only[fU]at hdesc2<;>try (simp at hdesc2;done)
  rename_i e2
  replace he:=Option.bind_eq_some_iff.1 he
  obtain⟨te,hte,he⟩:=he
  obtain⟨i',z',d',k'⟩:=bR hT hte
  split at he
  ·rename_i hsm
   obtain⟨hbytes,hsize⟩:=hsm
   replace he:=Option.bind_eq_some_iff.1 he
   obtain⟨⟨cx,n,ox⟩,hw,he⟩:=he
   have hwo: ∀(l:List Bool),e.obl=ox++l→ ∀b∈ox,b=true:=fun l hl b hb=>ho b (by rw[hl];exact List.mem_append_left _ hb)
   have hby:i'.bytes≤256:=by rw[k'.bytes];exact hbytes
   have fresh: ∀(a':Option Addr) (sets:List (Nat×aW)) (cc:Con),cc.size=cx.size→(∀q,cc.cell q=cx.cell q)→v=.slice a' 0 0→e= {val:=.c (.sl base 0 n te.size none),sets:=sets++[(base,.live cc)],obl:=e.obl}→
     (∀wd,Mem X w0 M h ρ wd→ ∃ρ1,d5 X w0 M h ρ wd sets ρ1)→(∀s,(base,s)∉sets)→(∀b∈ox,b=true)→n≤274877906944→Res X P w0 M h ρ w e (Builtin.append_ #[t,u] ty #[v,vy]):=by
    intro a' sets cc hccs hccc hv hee hk hbs hox hn
    obtain⟨a,kk,news,rfl,n1,n2,n3,n4⟩:=qO m hg hw hox (cN hy)
    subst hv
    rw[hee]
    by_cases h0:n=0
    ·subst h0
     obtain⟨ρ1,k1⟩:=hk w m
     have hcs:cx.size=0:=by simpa using n2
     obtain⟨g1,g2⟩:=k1.mem.allocNil (id:=base) (by rw[dL _ _ _ hbs];exact hb) (by rw[eK];exact hbl) cc (by rw[hccs];exact hcs)
     refine⟨_,w,_,qZ k.und k2.und k'.info,k1.mono.trans g1,by rw[hU];simpa [cV]using g2, ?_⟩
     exact .c _ _ (.slNone base 0 te.size none a' (by rw[b8];simp) (fun _ h=>by cases h))
    ·have hb2:(0+n)*i'.bytes≤140737488355328:=by
      have:n*i'.bytes≤274877906944*256:=Nat.mul_le_mul hn hby
      rw[Nat.zero_add];omega
     have hrun:=kI (P:=P) (ty:=ty) k.und k2.und k'.info k'.zero (a:=a) (a':=a') (len:=0) (cap:=0) (n:=n) (k:=kk) (olds:=[]) (news:=news) (w:=w) (by omega) hb2 (by omega)
      (by rw[k'.size];exact n1) n4 (by simp) (.inr rfl)
     rw[Nat.zero_add]at hrun
     obtain⟨ρ1,k1⟩:=hk _ (m.draw (w.drawn+1))
     obtain⟨g1,g2⟩:=nN (h:=h) (ρ:=ρ) (w:= {w with drawn:=w.drawn+1}) (m.draw (w.drawn+1)) hb hbl k1 (c:=cc)
      (cs:=(([]:List Value).toArray++news.toArray++Builtin.zeroCells z'.cells (grownCap w n 0 e1-n))) e1 (by rw[hccs];simp;omega) (fun q hq=>by
       rw[hccs]at hq;rw[hccc]
       have:=(n3 q hq).mono (bN.draw w ρ (w.drawn+1))
       have hq2:q<news.length:=by omega
       have:=this.mono k1.mono
       simpa [Array.getD_eq_getD_getElem?,List.getD_eq_getElem?_getD,Array.getElem?_append,hq2]using this) hbs
     refine⟨_,_,_,hrun,(bN.draw w ρ (w.drawn+1)).trans g1,g2, ?_⟩
     refine mK (ty:=e1) (cs:=(([]:List Value).toArray++news.toArray++Builtin.zeroCells z'.cells (grownCap w n 0 e1-n))) (b8 _ _ _) (by simp) ?_ ?_ (fun _ h=>by cases h)
     ·exact grownCap_ge w n 0 e1
     ·have h1:=grownCap_ge w n 0 e1
      simp only[Array.size_append,size_zeroCells,List.size_toArray,List.length_nil,tY k',n1]
      have:grownCap w n 0 e1*te.size=n*te.size+(grownCap w n 0 e1-n)*te.size:=by
       rw[←Nat.add_mul];congr 1;omega
      omega
   have hbase: ∀id c,get id=.live c→base≠id:=fun id c hc e=>by
    have:=hg _ _ hc;rw[←e,hb]at this;cases this
   dsimp only at he
   split at he
   ·injection he with he
    subst he
    refine fresh none [] cx rfl (fun _=>rfl) (by cases cN hx;rfl) rfl (fun wd md=>⟨ρ,d5.nil md⟩) (fun s hs=>by cases hs) (hwo _ rfl) (by simpa using ho (decide (n≤274877906944)) (by simp))
   ·injection he with he
    subst he
    have hv: ∃a',v=.slice a' 0 0:=by
     cases cN hx with
     |view _ _ _ _ _ b bb kk u hl hc hu hz hk hcap hnl=>have:=hcap 0 rfl;subst this;exact⟨_,rfl⟩
     |viewNone _ _ _ _ a kk hz hcap hnl hk=>have:=hcap 0 rfl;subst this;exact⟨_,rfl⟩
    obtain⟨a',hv⟩:=hv
    exact fresh a' [] cx rfl (fun _=>rfl) hv rfl (fun wd md=>⟨ρ,d5.nil md⟩) (fun s hs=>by cases hs) (hwo _ rfl) (by simpa using ho (decide (n≤274877906944)) (by simp))
   ·rename_i id len es cap
    cases hes:(es==te.size)with
    |false=>rw[hes]at he;cases he
    |true=>
    rw[hes]at he
    have hes':es=te.size:=by simpa using hes
    subst hes'
    dsimp only[cond_true]at he
    split at he
    ·rename_i c hs
     split at he
     ·rename_i c' happ
      injection he with he
      subst he
      have hox:=hwo _ rfl
      have hz:len*te.size=c.size:=by simpa [dE]using ho (decide (ix len te.size 0=c.size)) (by simp)
      have hlen:len+n≤274877906944:=by simpa using ho (decide (len+n≤274877906944)) (by simp)
      have hs':=hg _ _ hs
      have happ':=uW happ
      have hbn: ∀s,(base,s)∉[(id,aW.dead)]:=fun s hm=>by simp at hm;exact hbase _ _ hs hm.1
      rcases cW m hs' (cN hx)with⟨b,kk,ty',nn,hrb,rfl,⟨cs,ty2,hrow,hsz,hcs⟩,hsh,hnn,hl,hcap⟩|⟨a',rfl,rfl,hcap⟩
      ·obtain⟨a,k3,news,rfl,n1,n2,n3,n4⟩:=qO m hg hw hox (cN hy)
       have hcsz:kk*te.size≤cs.size:=by
        have:w.shape? b=some (ty2,cs.size):=by simp[World.shape?,hrow]
        rw[this]at hsh;injection hsh with hsh;injection hsh with h1 h2
        rw[Nat.zero_add]at hnn;omega
       have holds: ∀q,q<c.size→CR X w ρ (c.cell q) ((cs.toList.take (len*te.size)).getD q undef):=fun q hq=>by
        have:=hcs q hq
        have h1:q<len*te.size:=by omega
        simpa [List.getD_eq_getElem?_getD,List.getElem?_take,h1,Array.getD_eq_getD_getElem?]using this
       have hlt:(cs.toList.take (len*te.size)).length=c.size:=by simp;omega
       by_cases hroom:len+n≤kk
       ·
        have hrun:=r5 (P:=P) (ty:=ty) k.und k2.und k'.info (a:=a) (b:=b) (len:=len) (cap:=kk) (n:=n) (k:=k3) (news:=news) (w:=w) hroom
         (by rw[k'.size];exact n1) n4 hrow (by rw[k'.size];exact hcsz) (fun v hv=>by
          obtain⟨j,hj,rfl⟩:=List.getElem_of_mem hv
          have:=(n3 j (by omega)).one
          simpa [List.getD_eq_getElem?_getD,hj]using this)
        rw[k'.size]at hrun
        obtain⟨g1,g2⟩:=Mem.move m hrb hs' hb hbl
        have hroomsz:(len+n)*te.size≤kk*te.size:=Nat.mul_le_mul_right _ hroom
        rw[Nat.add_mul]at hroomsz
        obtain⟨g3,g4⟩:=g2.write (b8 _ _ _) c' cs (cs.toList.take (len*te.size)++news++cs.toList.drop (len*te.size+news.length)).toArray ty2 hrow
         (by simp;omega) (by rw[happ'.1];simp;omega) (fun q hq=>by
          have:=nG m (r:=cs.toList.drop (len*te.size+news.length)) happ' hlt holds n3 (by omega) q hq
          have:=this.mono g1
          simpa [Array.getD_eq_getD_getElem?,List.getD_eq_getElem?_getD]using this)
        refine⟨_,_,_,by rw[Nat.zero_mul];exact hrun,g1.trans g3, ?_, ?_⟩
        ·simpa [cV,List.set_set]using g4
        ·exact mK (ty:=ty2) (b8 _ _ _) (setRow_heap w b cs _ ty2 (0,0) hrow) hroom (by simp;omega) (fun _ h=>by cases h)
       ·
        have hb2:(len+n)*i'.bytes≤140737488355328:=by
         have:(len+n)*i'.bytes≤274877906944*256:=Nat.mul_le_mul hlen hby
         omega
        have hrun:=kI (P:=P) (ty:=ty) k.und k2.und k'.info k'.zero (a:=a) (a':=some ⟨b,0,none⟩) (len:=len) (cap:=kk) (n:=n) (k:=k3) (olds:=cs.toList.take (len*te.size)) (news:=news) (w:=w)
         (by omega) hb2 (by omega) (by rw[k'.size];exact n1) n4 (by rw[k'.size,hlt];omega) (.inl ⟨_,rfl,fun j u hj=>by
          rw[dU]
          rw[List.getElem?_take]at hj
          split at hj
          ·simp[World.cell?,hrow]at hj⊢;exact hj
          ·cases hj⟩)
        have k1:=d5.one (m.draw (w.drawn+1)) hs'
        obtain⟨g1,g2⟩:=nN (h:=h) (ρ:=ρ) (w:= {w with drawn:=w.drawn+1}) (m.draw (w.drawn+1)) hb hbl k1 (c:=c')
         (cs:=((cs.toList.take (len*te.size)).toArray++news.toArray++Builtin.zeroCells z'.cells (grownCap w (len+n) kk e1-(len+n)))) e1 (by rw[happ'.1];simp;omega) (fun q hq=>by
          have:=nG m (r:=(Builtin.zeroCells z'.cells (grownCap w (len+n) kk e1-(len+n))).toList) happ' hlt holds n3 (by omega) q hq
          have:=(this.mono (bN.draw w ρ (w.drawn+1))).mono k1.mono
          rw[show((cs.toList.take (len*te.size)).toArray++news.toArray++Builtin.zeroCells z'.cells (grownCap w (len+n) kk e1-(len+n)))=
           (cs.toList.take (len*te.size)++news++(Builtin.zeroCells z'.cells (grownCap w (len+n) kk e1-(len+n))).toList).toArray from by simp]
          simpa only[Array.getD_eq_getD_getElem?,List.getD_eq_getElem?_getD,List.getElem?_toArray]using this) hbn
        refine⟨_,_,_,by rw[Nat.zero_mul];exact hrun,(bN.draw w ρ (w.drawn+1)).trans g1,g2, ?_⟩
        refine mK (ty:=e1) (cs:=((cs.toList.take (len*te.size)).toArray++news.toArray++Builtin.zeroCells z'.cells (grownCap w (len+n) kk e1-(len+n)))) (b8 _ _ _) (by simp) (grownCap_ge _ _ _ _) ?_ (fun _ h=>by cases h)
        have h1:=grownCap_ge w (len+n) kk e1
        simp only[Array.size_append,size_zeroCells,List.size_toArray,hlt,tY k',n1]
        have:grownCap w (len+n) kk e1*te.size=(len+n)*te.size+(grownCap w (len+n) kk e1-(len+n))*te.size:=by
         rw[←Nat.add_mul];congr 1;omega
        rw[this,Nat.add_mul]
        omega
      ·
       have hc0:c.size=0:=by omega
       have hcell: ∀q,c'.cell q=cx.cell q:=fun q=>by have:=happ'.2.2 q;rwa[hc0,Nat.zero_add]at this
       have hsz':c'.size=cx.size:=by rw[happ'.1,hc0,Nat.zero_add]
       exact fresh a' [(id,.dead)] c' hsz' hcell rfl (by simp) (fun wd md=>⟨_,d5.one md hs'⟩) hbn hox (by omega)
     ·cases he
    ·cases he
   ·cases he
  ·cases he
 ·cases he
omit m in
theorem jO {t u ty e:TypeId} {ku:IntKind} {ie:TypeInfo} {z:Value} (ht:P.underlying t=some (.slice e)) (hu:P.underlying u=some (.int ku)) (hi:P.info? e=some ie) (hz:ie.zero=some z)
  {a':Option Addr} {len cap n:Nat} {kx:IntKind} {olds:List Value} (hg:cap<len+n) (hs:(len+n)*ie.bytes≤140737488355328) (h63:len+n≤9223372036854775807) (hby:ie.bytes≤256) (hn38:n≤274877906944)
  (hzs:z.cells.size=ie.size)
  (hlo:olds.length=len*ie.size) (hro:(∃b,a'=some b∧ ∀j u,olds[j]? =some u→w.cell? (b.add j)=some u)∨len=0):
  (Builtin.append_ #[t,u] ty #[.slice a' len cap,.int kx (n:Int)]).run P w=
   .ok (.slice (some ⟨w.heap.size,0,none⟩) (len+n) (grownCap w (len+n) cap e))
    {w with drawn:=w.drawn+1,heap:=w.heap.push (.cells (olds.toArray++Builtin.zeroCells z.cells n++Builtin.zeroCells z.cells (grownCap w (len+n) cap e-(len+n))) e (0,0))}:=by
 have hn: ¬(len+n≤cap):=by omega
 have h63': ¬(9223372036854775807<((len:Int)+(n:Int))):=by omega
 have hfit:=growslice_fits (bytes:=ie.bytes) hg hs
 have h48': ¬(281474976710656<Builtin.nextslicecap (len+n) cap*ie.bytes):=by omega
 have hro':(∃b,a'=some b∧ ∀j u,olds[j]? =some u→({w with drawn:=w.drawn+1}:World).cell? (b.add j)=some u)∨len=0:=hro
 have hfo:(Builtin.firstCells ie.size len (.slice a' len cap)).run P w.drew=.ok olds.toArray w.drew:=iR (P:=P) (k:=cap) hlo hro'
 have hw:IntKind.i64.wrap (n:Int)=n:=oF (by omega) (by omega)
 have hn0: ¬(n:Int)<0:=by omega
 have hbc: ¬(281474976710656:Int)<(n:Int)*ie.bytes:=by
  have h2:(n:Int)*ie.bytes≤n*256:=Int.mul_le_mul_of_nonneg_left (by omega) (by omega)
  omega
 by_cases hz0:n*ie.size=0
 ·have e0:Builtin.zeroCells z.cells n= #[]:=Array.eq_empty_of_size_eq_zero (by rw[size_zeroCells,hzs];exact hz0)
  simp[Builtin.append_,run_underlying ht,run_underlying hu,sizeOf,typeInfo,zeroValue,hi,hz,asInt,asIntOf,hw,hn0,hbc,hn,h63',h48',Question.forced,grownCap,choose,Sem.run,gF]
  simp only[hfo,Result.andThen_ok]
  rw[if_pos hz0]
  simp only[eI,e0]
  simp
  and_intros<;>rfl
 ·simp[Builtin.append_,run_underlying ht,run_underlying hu,sizeOf,typeInfo,zeroValue,hi,hz,asInt,asIntOf,hw,hn0,hbc,hn,h63',h48',Question.forced,grownCap,choose,Sem.run,gF]
  simp only[hfo,Result.andThen_ok]
  rw[if_neg hz0]
  simp[hi,hz,eI]
  and_intros<;>rfl
omit m in
theorem pE {t u ty e:TypeId} {ku:IntKind} {ie:TypeInfo} {z:Value} (ht:P.underlying t=some (.slice e)) (hu:P.underlying u=some (.int ku)) (hi:P.info? e=some ie) (hz:ie.zero=some z)
  {b len cap n:Nat} {kx:IntKind} {cs:Array Value} {tz:TypeId} (hg:len+n≤cap) (hby:ie.bytes≤256) (hn38:n≤274877906944) (hzs:z.cells.size=ie.size)
  (hrow:w.heap[b]? =some (.cells cs tz (0,0))) (hcap:cap*ie.size≤cs.size) (h1: ∀v∈(Builtin.zeroCells z.cells n).toList,v.oneCell'=true):
  (Builtin.append_ #[t,u] ty #[.slice (some ⟨b,0,none⟩) len cap,.int kx (n:Int)]).run P w=
   .ok (.slice (some ⟨b,0,none⟩) (len+n) cap) (w.setRow b (cs.toList.take (len*ie.size)++(Builtin.zeroCells z.cells n).toList++cs.toList.drop (len*ie.size+(Builtin.zeroCells z.cells n).toList.length)).toArray):=by
 have hle:(len+n)*ie.size≤cap*ie.size:=Nat.mul_le_mul_right _ hg
 rw[Nat.add_mul]at hle
 have hl:(Builtin.zeroCells z.cells n).toList.length=n*ie.size:=by rw[Array.length_toList,size_zeroCells,hzs]
 have hst:=run_storeCells_at P b (len*ie.size) tz (Builtin.zeroCells z.cells n).toList 0 cs w hrow (by omega) h1
 simp only[Nat.add_zero]at hst
 have hadd:(⟨b,0,none⟩:Addr).add (len*ie.size)=⟨b,len*ie.size,none⟩:=by rw[dU];simp
 have hw:IntKind.i64.wrap (n:Int)=n:=oF (by omega) (by omega)
 have hn0: ¬(n:Int)<0:=by omega
 have hbc: ¬(281474976710656:Int)<(n:Int)*ie.bytes:=by
  have h2:(n:Int)*ie.bytes≤n*256:=Int.mul_le_mul_of_nonneg_left (by omega) (by omega)
  omega
 by_cases hz0:n*ie.size=0
 ·have e0:Builtin.zeroCells z.cells n= #[]:=Array.eq_empty_of_size_eq_zero (by rw[size_zeroCells,hzs];exact hz0)
  rw[e0]at hst⊢
  simp[Builtin.append_,run_underlying ht,run_underlying hu,sizeOf,typeInfo,zeroValue,hi,hz,asInt,asIntOf,hw,hn0,hbc,hg]
  rw[if_pos hz0]
  simp[hadd]
  simp at hst
  rw[hst]
  simp
 ·simp[Builtin.append_,run_underlying ht,run_underlying hu,sizeOf,typeInfo,zeroValue,hi,hz,asInt,asIntOf,hw,hn0,hbc,hg]
  rw[if_neg hz0]
  simp[hi,hz,hadd]
  simp at hst
  rw[hst]
  simp
omit m in
theorem pD {t u ty e:TypeId} {ku:IntKind} {ie:TypeInfo} (ht:P.underlying t=some (.slice e)) (hu:P.underlying u=some (.int ku)) (hi:P.info? e=some ie)
  {a':Option Addr} {kx:IntKind}:(Builtin.append_ #[t,u] ty #[.slice a' 0 0,.int kx (0:Int)]).run P w=.ok (.slice a' 0 0) w:=by
 have hw:IntKind.i64.wrap (0:Int)=0:=oF (by omega) (by omega)
 cases a' with
 |none=>simp[Builtin.append_,run_underlying ht,run_underlying hu,sizeOf,typeInfo,hi,asInt,asIntOf,hw]
 |some a'=>simp[Builtin.append_,run_underlying ht,run_underlying hu,sizeOf,typeInfo,hi,asInt,asIntOf,hw,storeCells]
include hT hg hb hbl in
theorem zV {t u ty:Nat} {x:AV} {v vy:Value} {kx:IntKind} {nI:Int} (hx:AVR X w ρ x v) (hy:AVR X w ρ (.c (.int kx nI)) vy) {e:Eff} (he:s8 tt get base t u x nI=some e) (ho: ∀b∈e.obl,b=true):
  Res X P w0 M h ρ w e (Builtin.append_ #[t,u] ty #[v,vy]):=by
 unfold s8 at he
 replace he:=Option.bind_eq_some_iff.1 he
 obtain⟨ti,hti,he⟩:=he
 replace he:=Option.bind_eq_some_iff.1 he
 obtain⟨ui,hui,he⟩:=he
 obtain⟨i,z,d,k⟩:=bR hT hti
 obtain⟨i2,z2,d2,k2⟩:=bR hT hui
 have hdesc:=k.desc
 have hdesc2:=k2.desc
 obtain rfl:=dF hy
 split at he
 ·rename_i e' ku id len es cap hfs hfu
  rw[hfs]at hdesc
  rw[hfu]at hdesc2
  cases d<;>simp only[fU]at hdesc<;>try (simp at hdesc;done)
  rename_i e1
  simp only[Bool.and_eq_true,rpS,decide_eq_true_eq]at hdesc
  obtain⟨hee,hag⟩:=hdesc
  subst hee
  cases d2<;>simp only[fU]at hdesc2<;>try (simp at hdesc2;done)
  rename_i ku2
  replace he:=Option.bind_eq_some_iff.1 he
  obtain⟨te,hte,he⟩:=he
  obtain⟨i',z',d',k'⟩:=bR hT hte
  split at he
  ·rename_i hsm
   obtain⟨hbytes,hsize,hes⟩:=hsm
   subst hes
   replace he:=Option.bind_eq_some_iff.1 he
   obtain⟨cx,hcx,he⟩:=he
   have hby:i'.bytes≤256:=by rw[k'.bytes];exact hbytes
   split at he
   ·rename_i c hs
    split at he
    ·rename_i c' happ
     injection he with he
     subst he
     have o1:0≤nI:=by simpa using ho (decide (0≤nI)) (by simp)
     obtain⟨n,rfl⟩:=Int.eq_ofNat_of_zero_le o1
     have hz:len*te.size=c.size:=by simpa [dE]using ho (decide (ix len te.size 0=c.size)) (by simp)
     have hlen':(len:Int)+(n:Int)≤274877906944:=by simpa using ho (decide ((len:Int)+(n:Int)≤274877906944)) (by simp)
     have hlen:len+n≤274877906944:=by omega
     simp only[Int.toNat_natCast]at hcx
     obtain⟨z1,z2⟩:=lU hcx
     have hzl:te.zero.length=te.size:=k'.zl
     have hp:0<te.zero.length:=by omega
     have hlr:=kM (X:=X) (i4 k' w ρ) hp n
     rw[hzl]at hlr z1
     have hzs:z'.cells.size=i'.size:=by rw[tY k',k'.size]
     have n1:(Builtin.zeroCells z'.cells n).size=n*te.size:=by rw[size_zeroCells,tY k']
     have n3: ∀q,q<cx.size→CR X w ρ (cx.cell q) ((Builtin.zeroCells z'.cells n).toList.getD q undef):=fun q hq=>by
      have:=z2 hlr q hq
      have hq2:q<n*te.size:=by omega
      simpa [Builtin.zeroCells,tY k',List.getD_eq_getElem?_getD,hq2]using this
     have hs':=hg _ _ hs
     have happ':=uW happ
     have hbase:base≠id:=fun e=>by rw[←e,hb]at hs';cases hs'
     have hbn: ∀s,(base,s)∉[(id,aW.dead)]:=fun s hm=>by simp at hm;exact hbase hm.1
     rcases cW m hs' (cN hx)with⟨b,kk,ty',nn,hrb,rfl,⟨cs,ty2,hrow,hsz,hcs⟩,hsh,hnn,hl,hcap⟩|⟨a',rfl,rfl,hcap⟩
     ·have hcsz:kk*te.size≤cs.size:=by
       have:w.shape? b=some (ty2,cs.size):=by simp[World.shape?,hrow]
       rw[this]at hsh;injection hsh with hsh;injection hsh with h1 h2
       rw[Nat.zero_add]at hnn;omega
      have holds: ∀q,q<c.size→CR X w ρ (c.cell q) ((cs.toList.take (len*te.size)).getD q undef):=fun q hq=>by
       have:=hcs q hq
       have h1:q<len*te.size:=by omega
       simpa [List.getD_eq_getElem?_getD,List.getElem?_take,h1,Array.getD_eq_getD_getElem?]using this
      have hlt:(cs.toList.take (len*te.size)).length=c.size:=by simp;omega
      by_cases hroom:len+n≤kk
      ·have hrun:=pE (P:=P) (ty:=ty) k.und k2.und k'.info k'.zero (b:=b) (len:=len) (cap:=kk) (n:=n) (kx:=kx) (w:=w) hroom hby (by omega) hzs hrow (by rw[k'.size];exact hcsz) (fun v hv=>by
         obtain⟨j,hj,rfl⟩:=List.getElem_of_mem hv
         have hj':j<(Builtin.zeroCells z'.cells n).size:=by simpa using hj
         have:=(n3 j (by omega)).one
         simpa [List.getD_eq_getElem?_getD,hj']using this)
       rw[k'.size]at hrun
       obtain⟨g1,g2⟩:=Mem.move m hrb hs' hb hbl
       have hroomsz:(len+n)*te.size≤kk*te.size:=Nat.mul_le_mul_right _ hroom
       rw[Nat.add_mul]at hroomsz
       obtain⟨g3,g4⟩:=g2.write (b8 _ _ _) c' cs (cs.toList.take (len*te.size)++(Builtin.zeroCells z'.cells n).toList++cs.toList.drop (len*te.size+(Builtin.zeroCells z'.cells n).toList.length)).toArray ty2 hrow
        (by simp;omega) (by rw[happ'.1];simp;omega) (fun q hq=>by
         have:=nG m (r:=cs.toList.drop (len*te.size+(Builtin.zeroCells z'.cells n).toList.length)) happ' hlt holds n3 (by simp;omega) q hq
         have:=this.mono g1
         simpa [Array.getD_eq_getD_getElem?,List.getD_eq_getElem?_getD]using this)
       refine⟨_,_,_,by rw[Nat.zero_mul];exact hrun,g1.trans g3, ?_, ?_⟩
       ·simpa [cV,List.set_set]using g4
       ·exact mK (ty:=ty2) (b8 _ _ _) (setRow_heap w b cs _ ty2 (0,0) hrow) hroom (by simp;omega) (fun _ h=>by cases h)
      ·have hb2:(len+n)*i'.bytes≤140737488355328:=by
        have:(len+n)*i'.bytes≤274877906944*256:=Nat.mul_le_mul hlen hby
        omega
       have hrun:=jO (P:=P) (ty:=ty) k.und k2.und k'.info k'.zero (a':=some ⟨b,0,none⟩) (len:=len) (cap:=kk) (n:=n) (kx:=kx) (olds:=cs.toList.take (len*te.size)) (w:=w)
        (by omega) hb2 (by omega) hby (by omega) hzs (by rw[k'.size,hlt];omega) (.inl ⟨_,rfl,fun j u hj=>by
         rw[dU]
         rw[List.getElem?_take]at hj
         split at hj
         ·simp[World.cell?,hrow]at hj⊢;exact hj
         ·cases hj⟩)
       have k1:=d5.one (m.draw (w.drawn+1)) hs'
       obtain⟨g1,g2⟩:=nN (h:=h) (ρ:=ρ) (w:= {w with drawn:=w.drawn+1}) (m.draw (w.drawn+1)) hb hbl k1 (c:=c')
        (cs:=((cs.toList.take (len*te.size)).toArray++Builtin.zeroCells z'.cells n++Builtin.zeroCells z'.cells (grownCap w (len+n) kk e1-(len+n)))) e1 (by rw[happ'.1];simp;omega) (fun q hq=>by
         have:=nG m (r:=(Builtin.zeroCells z'.cells (grownCap w (len+n) kk e1-(len+n))).toList) happ' hlt holds n3 (by simp;omega) q hq
         have:=(this.mono (bN.draw w ρ (w.drawn+1))).mono k1.mono
         rw[show((cs.toList.take (len*te.size)).toArray++Builtin.zeroCells z'.cells n++Builtin.zeroCells z'.cells (grownCap w (len+n) kk e1-(len+n)))=
          (cs.toList.take (len*te.size)++(Builtin.zeroCells z'.cells n).toList++(Builtin.zeroCells z'.cells (grownCap w (len+n) kk e1-(len+n))).toList).toArray from by simp]
         simpa only[Array.getD_eq_getD_getElem?,List.getD_eq_getElem?_getD,List.getElem?_toArray]using this) hbn
       refine⟨_,_,_,by rw[Nat.zero_mul];exact hrun,(bN.draw w ρ (w.drawn+1)).trans g1,g2, ?_⟩
       refine mK (ty:=e1) (cs:=((cs.toList.take (len*te.size)).toArray++Builtin.zeroCells z'.cells n++Builtin.zeroCells z'.cells (grownCap w (len+n) kk e1-(len+n)))) (b8 _ _ _) (by simp) (grownCap_ge _ _ _ _) ?_ (fun _ h=>by cases h)
       have h1:=grownCap_ge w (len+n) kk e1
       simp only[Array.size_append,size_zeroCells,List.size_toArray,hlt,tY k']
       have:grownCap w (len+n) kk e1*te.size=(len+n)*te.size+(grownCap w (len+n) kk e1-(len+n))*te.size:=by
        rw[←Nat.add_mul];congr 1;omega
       rw[this,Nat.add_mul]
       omega
     ·have hc0:c.size=0:=by omega
      have hcell: ∀q,c'.cell q=cx.cell q:=fun q=>by have:=happ'.2.2 q;rwa[hc0,Nat.zero_add]at this
      have hsz':c'.size=cx.size:=by rw[happ'.1,hc0,Nat.zero_add]
      by_cases h0:n=0
      ·subst h0
       have k1:=d5.one m hs'
       obtain⟨g1,g2⟩:=k1.mem.allocNil (id:=base) (by rw[dL _ _ _ hbn];exact hb) (by rw[eK];exact hbl) c' (by rw[hsz'];simpa using z1)
       refine⟨_,w,_,pD k.und k2.und k'.info,k1.mono.trans g1,by simpa [cV]using g2, ?_⟩
       exact .c _ _ (.slNone base 0 te.size none a' (by rw[b8];simp) (fun _ h=>by cases h))
      ·have hb2:(0+n)*i'.bytes≤140737488355328:=by
        have:n*i'.bytes≤274877906944*256:=Nat.mul_le_mul (by omega) hby
        rw[Nat.zero_add];omega
       have hrun:=jO (P:=P) (ty:=ty) k.und k2.und k'.info k'.zero (a':=a') (len:=0) (cap:=0) (n:=n) (kx:=kx) (olds:=[]) (w:=w) (by omega) hb2 (by omega) hby (by omega) hzs (by simp) (.inr rfl)
       rw[Nat.zero_add]at hrun
       have k1:=d5.one (m.draw (w.drawn+1)) hs'
       obtain⟨g1,g2⟩:=nN (h:=h) (ρ:=ρ) (w:= {w with drawn:=w.drawn+1}) (m.draw (w.drawn+1)) hb hbl k1 (c:=c')
        (cs:=(([]:List Value).toArray++Builtin.zeroCells z'.cells n++Builtin.zeroCells z'.cells (grownCap w n 0 e1-n))) e1 (by rw[hsz'];simp;omega) (fun q hq=>by
         rw[hsz']at hq;rw[hcell]
         have:=(n3 q hq).mono (bN.draw w ρ (w.drawn+1))
         have:=this.mono k1.mono
         have hq2:q<(Builtin.zeroCells z'.cells n).size:=by omega
         simpa [Array.getD_eq_getD_getElem?,List.getD_eq_getElem?_getD,Array.getElem?_append,hq2]using this) hbn
       refine⟨_,_,_,hrun,(bN.draw w ρ (w.drawn+1)).trans g1,g2, ?_⟩
       simp only[Int.toNat_natCast,Nat.zero_add]
       refine mK (ty:=e1) (cs:=(([]:List Value).toArray++Builtin.zeroCells z'.cells n++Builtin.zeroCells z'.cells (grownCap w n 0 e1-n))) (b8 _ _ _) (by simp) ?_ ?_ (fun _ h=>by cases h)
       ·exact grownCap_ge w n 0 e1
       ·have h1:=grownCap_ge w n 0 e1
        simp only[Array.size_append,size_zeroCells,List.size_toArray,List.length_nil,tY k']
        have:grownCap w n 0 e1*te.size=n*te.size+(grownCap w n 0 e1-n)*te.size:=by
         rw[←Nat.add_mul];congr 1;omega
        omega
    ·cases he
   ·cases he
  ·cases he
 ·cases he
end
end
section
variable {X : Nat → Prop}
section
variable {P : Program} {tt : Tab} (hT : iV P tt) {w0 w : World} {M : Nat → Prop} {h : List aW} {ρ : Rho} (m : Mem X w0 M h ρ w)
 {get:Get} (hg: ∀id c,get id=.live c→Heap.get h id=.live c)
include m
omit m in
theorem cD {t:Nat} {ti:TI} {i:TypeInfo} {z:Value} {d:TypeDesc} {e:Nat} (k:iE P t ti i z d) (hd:ti.desc=.slice e):P.underlying t=some (.slice e):=by
 have:=k.desc;rw[hd]at this
 cases d<;>simp only[fU]at this<;>try (simp at this;done)
 simp only[Bool.and_eq_true,rpS,decide_eq_true_eq]at this
 rw[k.und,this.1]
omit m in
theorem g8 {t:Nat} {ti:TI} {i:TypeInfo} {z:Value} {d:TypeDesc} {n e:Nat} (k:iE P t ti i z d) (hd:ti.desc=.arr n e):P.underlying t=some (.array n e):=by
 have:=k.desc;rw[hd]at this
 cases d<;>simp only[fU]at this<;>try (simp at this;done)
 simp only[Bool.and_eq_true,rpS,decide_eq_true_eq]at this
 rw[k.und,this.1.1,this.1.2]
omit m in
theorem mW {t:Nat} {ti:TI} {i:TypeInfo} {z:Value} {d:TypeDesc} (k:iE P t ti i z d) (hd:ti.desc=.str):P.underlying t=some .string:=by
 have:=k.desc;rw[hd]at this
 cases d<;>simp only[fU]at this<;>first|(simp at this;done)|exact k.und
omit m in
theorem EJ {t:Nat} {ti:TI} {i:TypeInfo} {z:Value} {d:TypeDesc} (k:iE P t ti i z d) (hd:ti.desc=.bool):P.underlying t=some .bool:=by
 have:=k.desc;rw[hd]at this
 cases d<;>simp only[fU]at this<;>first|(simp at this;done)|exact k.und
omit m in
theorem mV {t:Nat} {ti:TI} {i:TypeInfo} {z:Value} {d:TypeDesc} {kk:IntKind} (k:iE P t ti i z d) (hd:ti.desc=.int kk):P.underlying t=some (.int kk):=by
 have:=k.desc;rw[hd]at this
 cases d<;>simp only[fU]at this<;>try (simp at this;done)
 simp only[Bool.and_eq_true,rpS,decide_eq_true_eq]at this
 rw[k.und,this.1]
omit m in
theorem jW {t:Nat} {ti:TI} {i:TypeInfo} {z:Value} {d:TypeDesc} {l:List (Nat×Nat)} (k:iE P t ti i z d) (hd:ti.desc=.struct l):
  ∃fs:Array Go.Field,P.underlying t=some (.struct fs)∧fs.toList.map (fun f=>(f.offset,f.type))=l∧ ∀f∈fs.toList,((P.info? f.type).map (·.size)).getD 0≠0:=by
 have:=k.desc;rw[hd]at this
 cases d<;>simp only[fU]at this<;>try (simp at this;done)
 rename_i fs
 simp only[Bool.and_eq_true,rpS,decide_eq_true_eq,List.all_eq_true]at this
 exact⟨fs,k.und,this.1.1,this.2⟩
omit m in
theorem hS {t e sz:Nat} (hu:P.underlying t=some (.slice e)) (hs:(sizeOf e).run P w=.ok sz w) {b o len k:Nat} {ki:IntKind} {n:Int} (h0:0≤n) (h1:n<(len:Int)):
  (Instr.indexAt t (.slice (some ⟨b,o,none⟩) len k) (.int ki n)).run P w=.ok (.pointer (some ⟨b,o+n.toNat*sz,none⟩)) w:=by
 simp[Instr.indexAt,asIntOf,run_underlying hu,h0,h1,hs,dU]
omit m in
theorem f9 {t e sz len:Nat} (hu:P.underlying t=some (.array len e)) (hs:(sizeOf e).run P w=.ok sz w) {b o:Nat} {ki:IntKind} {n:Int} (h0:0≤n) (h1:n<(len:Int)):
  (Instr.indexAt t (.pointer (some ⟨b,o,none⟩)) (.int ki n)).run P w=.ok (.pointer (some ⟨b,o+n.toNat*sz,none⟩)) w:=by
 simp[Instr.indexAt,asIntOf,run_underlying hu,Instr.sureAddr,h0,h1,hs,dU]
include hT hg in
theorem uM {t:Nat} {x y:AV} {v u:Value} (hx:AVR X w ρ x v) (hy:AVR X w ρ y u) {e:Eff} (he:m5 tt get t x y=some e) (ho: ∀b∈e.obl,b=true):
  Res X P w0 M h ρ w e (Instr.indexAt t v u):=by
 unfold m5 at he
 replace he:=Option.bind_eq_some_iff.1 he
 obtain⟨ti,hti,he⟩:=he
 obtain⟨i,z,d,k⟩:=bR hT hti
 split at he
 ·rename_i e' id o len es cap kk n hfs
  replace he:=Option.bind_eq_some_iff.1 he
  obtain⟨te,hte,he⟩:=he
  obtain⟨i',z',d',k'⟩:=bR hT hte
  cases hc:(decide (te.size=es)&&hJ get id)with
  |false=>rw[hc]at he;cases he
  |true=>
  rw[hc]at he
  simp only[Bool.and_eq_true,rpS,decide_eq_true_eq]at hc
  obtain⟨rfl,hal⟩:=hc
  obtain⟨c,hal⟩:=iF hal
  injection he with he;subst he
  obtain rfl:=dF hy
  have h0:0≤n:=by simpa using ho (decide (0≤n)) (by simp)
  have h1:n<(len:Int):=by simpa using ho (decide (n<(len:Int))) (by simp)
  rcases cW m (hg _ _ hal) (cN hx)with⟨b,kk',ty,nn,hb,rfl,hrow,hsh,hn,hl,hcap⟩|⟨a,rfl,rfl,hcap⟩
  ·refine⟨_,w,ρ,hS (cD k hfs) (bW k' w) h0 h1,bN.refl _ _,m, ?_⟩
   have:=CR0.ptr (w:=w) (L:=fun b=>bH ρ b∨X b) (ρ:=ρ) id (n.toNat+o) te.size 0 b hb
   rw[show(n.toNat+o)*te.size+0=o*te.size+n.toNat*te.size from by rw[Nat.add_mul];omega]at this
   exact .c _ _ this
  ·omega
 ·rename_i e' nl c len es cap kk n hfs
  replace he:=Option.bind_eq_some_iff.1 he
  obtain⟨te,hte,he⟩:=he
  obtain⟨i',z',d',k'⟩:=bR hT hte
  cases hc:decide (te.size=es)with
  |false=>rw[hc]at he;cases he
  |true=>
  rw[hc]at he
  simp only[decide_eq_true_eq]at hc
  subst hc
  injection he with he;subst he
  obtain rfl:=dF hy
  have h0:0≤n:=by simpa using ho (decide (0≤n)) (by simp)
  have h1:n<(len:Int):=by simpa using ho (decide (n<(len:Int))) (by simp)
  cases cN hx with
  |view _ _ _ _ _ b base kk' u hl hc hu hz hk hcap hnl=>
   refine⟨_,w,ρ,hS (cD k hfs) (bW k' w) h0 h1,bN.refl _ _,m, ?_⟩
   have:=CR0.vptr (w:=w) (L:=fun b=>bH ρ b∨X b) (ρ:=ρ) c n.toNat te.size 0 b base u hl hc hu
   rw[Nat.add_zero]at this
   exact .c _ _ this
  |viewNone _ _ _ _ a k hz hcap hnl hk=>simp at h1;omega
 ·rename_i mm e' id i0 es0 j0 kk n hfs
  replace he:=Option.bind_eq_some_iff.1 he
  obtain⟨te,hte,he⟩:=he
  obtain⟨i',z',d',k'⟩:=bR hT hte
  cases hal:hJ get id with
  |false=>rw[hal]at he;cases he
  |true=>
  rw[hal]at he
  obtain⟨c,hal⟩:=iF hal
  obtain rfl:=dF hy
  obtain⟨b,hb,rfl,hrow⟩:=gU m (hg _ _ hal) (cN hx)
  dsimp only[cond_true]at he
  split at he
  ·injection he with he;subst he
   have h0:0≤n:=by simpa using ho (decide (0≤n)) (by simp)
   have h1:n<(mm:Int):=by simpa using ho (decide (n<(mm:Int))) (by simp)
   refine⟨_,w,ρ,f9 (g8 k hfs) (bW k' w) h0 h1,bN.refl _ _,m, ?_⟩
   have:=CR0.ptr (w:=w) (L:=fun b=>bH ρ b∨X b) (ρ:=ρ) id n.toNat te.size j0 b hb
   rw[Nat.mul_zero,Nat.zero_add,Nat.add_comm]
   exact .c _ _ this
  ·injection he with he;subst he
   have h0:0≤n:=by simpa using ho (decide (0≤n)) (by simp)
   have h1:n<(mm:Int):=by simpa using ho (decide (n<(mm:Int))) (by simp)
   refine⟨_,w,ρ,f9 (g8 k hfs) (bW k' w) h0 h1,bN.refl _ _,m, ?_⟩
   have:=CR0.ptr (w:=w) (L:=fun b=>bH ρ b∨X b) (ρ:=ρ) id i0 es0 (n.toNat*te.size+j0) b hb
   rw[Nat.add_assoc,Nat.add_comm j0]
   exact .c _ _ this
 ·rename_i mm e' c i0 es0 j0 kk n hfs
  replace he:=Option.bind_eq_some_iff.1 he
  obtain⟨te,hte,he⟩:=he
  obtain⟨i',z',d',k'⟩:=bR hT hte
  obtain rfl:=dF hy
  cases cN hx with
  |vptr _ _ _ _ b base u hl hc hu=>
  split at he
  ·injection he with he;subst he
   have h0:0≤n:=by simpa using ho (decide (0≤n)) (by simp)
   have h1:n<(mm:Int):=by simpa using ho (decide (n<(mm:Int))) (by simp)
   refine⟨_,w,ρ,f9 (g8 k hfs) (bW k' w) h0 h1,bN.refl _ _,m, ?_⟩
   have:=CR0.vptr (w:=w) (L:=fun b=>bH ρ b∨X b) (ρ:=ρ) c n.toNat te.size j0 b base u hl hc hu
   rw[Nat.mul_zero,Nat.zero_add,Nat.add_assoc,Nat.add_comm j0]
   exact .c _ _ this
  ·injection he with he;subst he
   have h0:0≤n:=by simpa using ho (decide (0≤n)) (by simp)
   have h1:n<(mm:Int):=by simpa using ho (decide (n<(mm:Int))) (by simp)
   refine⟨_,w,ρ,f9 (g8 k hfs) (bW k' w) h0 h1,bN.refl _ _,m, ?_⟩
   have:=CR0.vptr (w:=w) (L:=fun b=>bH ρ b∨X b) (ρ:=ρ) c i0 es0 (n.toNat*te.size+j0) b base u hl hc hu
   rw[Nat.add_assoc base,Nat.add_assoc (i0*es0),Nat.add_comm j0]
   exact .c _ _ this
 ·cases he
omit m in
theorem qL {t f b o:Nat} {fs:Array Go.Field} {fd:Go.Field} (hu:P.underlying t=some (.struct fs)) (hf:fs.toList[f]? =some fd) (hz:((P.info? fd.type).map (·.size)).getD 0≠0):
  (Instr.fieldAt t (.pointer (some ⟨b,o,none⟩)) f).run P w=.ok (.pointer (some ⟨b,o+fd.offset,none⟩)) w:=by
 have hf':fs[f]? =some fd:=by simpa using hf
 cases hi:P.info? fd.type with
 |none=>rw[hi]at hz;exact absurd rfl hz
 |some i=>
  rw[hi]at hz
  have hz': ¬i.size=0:=hz
  simp[Instr.fieldAt,run_underlying hu,hf',Instr.sureAddr,fieldPlace,sizeOf,typeInfo,hi,hz',dU]
include hT hg in
theorem uL {t f:Nat} {x:AV} {v:Value} (hx:AVR X w ρ x v) {e:Eff} (he:lZ tt get t x f=some e):Res X P w0 M h ρ w e (Instr.fieldAt t v f):=by
 unfold lZ at he
 replace he:=Option.bind_eq_some_iff.1 he
 obtain⟨ti,hti,he⟩:=he
 obtain⟨i,z,d,k⟩:=bR hT hti
 split at he
 ·rename_i fs id ii es j hfs
  cases hal:hJ get id with
  |false=>rw[hal]at he;cases he
  |true=>
  rw[hal]at he
  obtain⟨c,hal⟩:=iF hal
  obtain⟨b,hb,rfl,hrow⟩:=gU m (hg _ _ hal) (cN hx)
  replace he:=Option.bind_eq_some_iff.1 he
  obtain⟨⟨o,ft⟩,h1,he⟩:=he
  injection he with he;subst he
  obtain⟨fields,f1,f2,f3⟩:=jW k hfs
  rw[field?,←f2,List.getElem?_map]at h1
  obtain⟨fd,g1,g2⟩:=Option.map_eq_some_iff.1 h1
  injection g2 with g2 g3
  refine⟨_,w,ρ,qL f1 g1 (f3 fd (List.mem_of_getElem? g1)),bN.refl _ _,m, ?_⟩
  rw[g2,Nat.add_assoc]
  exact .c _ _ (.ptr id ii es (j+o) b hb)
 ·rename_i fs c ii es j hfs
  cases cN hx with
  |vptr _ _ _ _ b base u hl hc hu=>
  replace he:=Option.bind_eq_some_iff.1 he
  obtain⟨⟨o,ft⟩,h1,he⟩:=he
  injection he with he;subst he
  obtain⟨fields,f1,f2,f3⟩:=jW k hfs
  rw[field?,←f2,List.getElem?_map]at h1
  obtain⟨fd,g1,g2⟩:=Option.map_eq_some_iff.1 h1
  injection g2 with g2 g3
  refine⟨_,w,ρ,qL f1 g1 (f3 fd (List.mem_of_getElem? g1)),bN.refl _ _,m, ?_⟩
  rw[g2,Nat.add_assoc base,Nat.add_assoc (ii*es)]
  exact .c _ _ (.vptr c ii es (j+o) b base u hl hc hu)
 ·cases he
omit m in
include hT in
theorem t4 {t off:Nat} {cs:List aF} {vs:Array Value} (hl:LR X w ρ cs vs.toList) {y:AV} (hp:apart tt t cs off=some y): ∃v,(part t vs off).run P w=.ok v w∧AVR X w ρ y v:=by
 unfold apart at hp
 replace hp:=Option.bind_eq_some_iff.1 hp
 obtain⟨te,hte,hp⟩:=hp
 obtain⟨i,z,d,k⟩:=bR hT hte
 cases hag:te.agg with
 |true=>
  rw[hag]at hp
  injection hp with hp;subst hp
  refine⟨.agg (vs.extract off (off+te.size)), ?_,AVR.of_lr ?_⟩
  ·simp[part,l9 k,hag,bW k]
  ·have:=(hl.drop off).take te.size
   simpa [Array.toList_extract,List.extract_eq_take_drop]using this
 |false=>
  rw[hag]at hp
  obtain⟨c,h1,h2⟩:=Option.map_eq_some_iff.1 hp
  subst h2
  have hlt:off<cs.length:=(List.getElem?_eq_some_iff.1 h1).1
  have hlt2:off<vs.size:=by have:=hl.1;simp at this;omega
  refine⟨vs[off],by simp[part,l9 k,hag,hlt2],.c _ _ ?_⟩
  have:=hl.2 off hlt
  simpa [List.getD_eq_getElem?_getD,h1,hlt2]using this
omit m in
theorem D8 {cs:List aF} {v:Value} (hx:AVR X w ρ (.agg cs) v): ∃vs:Array Value,v=.agg vs∧LR X w ρ cs vs.toList:=by
 cases hx with
 |agg _ vs hs h=>exact⟨vs,rfl,by simpa using hs,fun i hi=>by have:=h i hi;simpa [Array.getD_eq_getD_getElem?,List.getD_eq_getElem?_getD]using this⟩
include hT in
theorem F4 {t f:Nat} {x:AV} {v:Value} (hx:AVR X w ρ x v) {e:Eff} (he:BW tt t x f=some e):Res X P w0 M h ρ w e (Instr.field t v f):=by
 unfold BW at he
 replace he:=Option.bind_eq_some_iff.1 he
 obtain⟨ti,hti,he⟩:=he
 obtain⟨i,z,d,k⟩:=bR hT hti
 split at he
 ·rename_i fs cs hfs
  replace he:=Option.bind_eq_some_iff.1 he
  obtain⟨⟨o,ft⟩,h1,he⟩:=he
  replace he:=Option.bind_eq_some_iff.1 he
  obtain⟨y,hp,he⟩:=he
  injection he with he;subst he
  obtain⟨vs,rfl,hl⟩:=D8 hx
  obtain⟨fields,f1,f2,f3⟩:=jW k hfs
  rw[field?,←f2,List.getElem?_map]at h1
  obtain⟨fd,g1,g2⟩:=Option.map_eq_some_iff.1 h1
  injection g2 with g2 g3
  obtain⟨v,p1,p2⟩:=t4 hT hl hp
  have g1':fields[f]? =some fd:=by simpa using g1
  refine⟨v,w,ρ, ?_,bN.refl _ _,m,p2⟩
  simp[Instr.field,run_underlying f1,g1',asAgg,g2,g3,p1]
 ·cases he
include hT in
theorem F5 {t:Nat} {x y:AV} {v u:Value} (hx:AVR X w ρ x v) (hy:AVR X w ρ y u) {e:Eff} (he:BX tt t x y=some e) (ho: ∀b∈e.obl,b=true):Res X P w0 M h ρ w e (Instr.index t v u):=by
 unfold BX at he
 replace he:=Option.bind_eq_some_iff.1 he
 obtain⟨ti,hti,he⟩:=he
 obtain⟨i,z,d,k⟩:=bR hT hti
 split at he
 ·rename_i mm e' cs kk n hfs
  replace he:=Option.bind_eq_some_iff.1 he
  obtain⟨te,hte,he⟩:=he
  obtain⟨i',z',d',k'⟩:=bR hT hte
  replace he:=Option.bind_eq_some_iff.1 he
  obtain⟨y,hp,he⟩:=he
  injection he with he;subst he
  obtain⟨vs,rfl,hl⟩:=D8 hx
  obtain rfl:=dF hy
  have h0:0≤n:=by simpa using ho (decide (0≤n)) (by simp)
  have h1:n<(mm:Int):=by simpa using ho (decide (n<(mm:Int))) (by simp)
  obtain⟨v,p1,p2⟩:=t4 hT hl hp
  refine⟨v,w,ρ, ?_,bN.refl _ _,m,p2⟩
  simp[Instr.index,asIntOf,run_underlying (g8 k hfs),h0,h1,bW k',p1]
 ·rename_i s kk n hfs
  injection he with he;subst he
  obtain rfl:=x9 hx
  obtain rfl:=dF hy
  have h0:0≤n:=by simpa using ho (decide (0≤n)) (by simp)
  have h1:n<(s.size:Int):=by simpa using ho (decide (n<(s.size:Int))) (by simp)
  have hlt:n.toNat<s.size:=by omega
  refine⟨_,w,ρ, ?_,bN.refl _ _,m,.c _ _ (.int _ _)⟩
  have e1:s[n.toNat]? =some (s.data.getD n.toNat 0):=by
   have hlt':n.toNat<s.data.size:=hlt
   rw[getElem?_pos s n.toNat hlt]
   simp only[Array.getD,hlt',dif_pos];rfl
  simp[Instr.index,asIntOf,run_underlying (mW k hfs),h0,e1]
 ·cases he
omit m in
theorem pX {α:Type} (es:Nat) (xs:List α) (lo hi:Option Nat):(uF es xs lo hi).length=min ((hi.map (· *es)).getD xs.length) xs.length-lo.getD 0*es:=by
 unfold uF;cases lo<;>cases hi<;>simp[dE]
omit m in
theorem kR {α:Type} (es:Nat) (xs:List α) (lo hi:Option Nat) (d:α) (q:Nat) (hq:q<(uF es xs lo hi).length):
  (uF es xs lo hi).getD q d=xs.getD (lo.getD 0*es+q) d:=by
 rw[pX]at hq
 unfold uF
 cases lo with
 |none=>
  cases hi with
  |none=>simp
  |some h=>
   simp at hq
   have:q<ix h es 0:=by rw[dE];omega
   simp[List.getD_eq_getElem?_getD,List.getElem?_take,this]
 |some l=>
  cases hi with
  |none=>simp[List.getD_eq_getElem?_getD,List.getElem?_drop,dE]
  |some h=>
   simp at hq
   have:l*es+q<h*es:=by omega
   simp[List.getD_eq_getElem?_getD,List.getElem?_drop,List.getElem?_take,dE,this]
omit m in
theorem pL {es len:Nat} {c c':Con} {lo hi:Option Nat} (hs:c.sub es lo hi=some c') (hz:len*es=c.size) (h1:hi.getD len≤len) (h2:lo.getD 0≤hi.getD len):
  c'.size=(hi.getD len-lo.getD 0)*es∧ ∀q,q<c'.size→c'.cell q=c.cell (lo.getD 0*es+q):=by
 have hsz: ∀ {α:Type} (xs:List α),xs.length=c.size→(uF es xs lo hi).length=(hi.getD len-lo.getD 0)*es:=by
  intro α xs hx
  rw[pX,hx,←hz,Nat.sub_mul]
  have a1:=Nat.mul_le_mul_right es h1
  cases hi with
  |none=>simp
  |some h=>
   have a1:h*es≤len*es:=Nat.mul_le_mul_right es h1
   show min (h*es) (len*es)-lo.getD 0*es=h*es-lo.getD 0*es
   rw[Nat.min_eq_left a1]
 cases c with
 |ints k xs=>
  injection hs with hs;subst hs
  exact⟨hsz xs rfl,fun q hq=>by simp only[Con.cell];rw[kR _ _ _ _ _ _ hq]⟩
 |bools xs=>
  injection hs with hs;subst hs
  exact⟨hsz xs rfl,fun q hq=>by simp only[Con.cell];rw[kR _ _ _ _ _ _ hq]⟩
 |ivs k xs=>
  injection hs with hs;subst hs
  exact⟨hsz xs rfl,fun q hq=>by simp only[Con.cell];rw[kR _ _ _ _ _ _ hq]⟩
 |cells xs=>
  injection hs with hs;subst hs
  exact⟨hsz xs rfl,fun q hq=>by simp only[Con.cell];rw[kR _ _ _ _ _ _ hq]⟩
 |recs e n f=>
  simp only[Con.sub]at hs
  cases he:(e==es)with
  |false=>rw[he]at hs;cases hs
  |true=>
   rw[he]at hs
   have he':e=es:=by simpa using he
   subst he'
   simp only[Con.size]at hz
   have hn:e=0∨n=len:=by
    rcases Nat.eq_zero_or_pos e with h|h
    ·exact .inl h
    ·exact .inr (Nat.eq_of_mul_eq_mul_right h hz.symm)
   cases lo with
   |none=>
    cases hi with
    |none=>injection hs with hs;subst hs;exact⟨by simp[Con.size,hz],fun q hq=>by simp⟩
    |some h=>injection hs with hs;subst hs;exact⟨by simp[Con.size],fun q hq=>by simp[Con.cell]⟩
   |some l=>
    have cell: ∀q,0<e→(fun i j=>f (i+l) j) (q/e) (q%e)=f ((l*e+q)/e) ((l*e+q)%e):=fun q hp=>by
     have a1:(l*e+q)/e=q/e+l:=by rw[Nat.add_comm,Nat.add_mul_div_right _ _ hp]
     have a2:(l*e+q)%e=q%e:=by rw[Nat.add_comm,Nat.add_mul_mod_self_right]
     rw[a1,a2]
    cases hi with
    |none=>
     injection hs with hs;subst hs
     refine⟨?_,fun q hq=> ?_⟩
     ·simp only[Con.size,Option.getD_none,Option.getD_some]
      rcases hn with h|h
      ·subst h;simp
      ·rw[h]
     ·simp only[Con.size]at hq
      have hp:0<e:=by
       rcases Nat.eq_zero_or_pos e with h|h
       ·subst h;simp at hq
       ·exact h
      exact cell q hp
    |some h=>
     injection hs with hs;subst hs
     refine⟨rfl,fun q hq=> ?_⟩
     simp only[Con.size]at hq
     have hp:0<e:=by
      rcases Nat.eq_zero_or_pos e with h|h
      ·subst h;simp at hq
      ·exact h
     exact cell q hp
omit m in
theorem oO {x:Option AV} {v:Option Value} {n:Option Int} (hx: ∀y,x=some y→ ∃u,v=some u∧AVR X w ρ y u) (hn:x=none→v=none) (hb:bnd x=some n):
  (n=none∧v=none)∨ ∃k q,n=some q∧v=some (.int k q):=by
 unfold bnd at hb
 split at hb
 ·injection hb with hb;subst hb;exact .inl ⟨rfl,hn rfl⟩
 ·rename_i k q
  injection hb with hb;subst hb
  obtain⟨u,hu,hr⟩:=hx _ rfl
  obtain rfl:=dF hr
  exact .inr ⟨k,q,rfl,hu⟩
 ·cases hb
omit m in
theorem jE {isS:Bool} {len cap:Nat} {lo hi mx:Option Int} {vl vh vm:Option Value} (hl:(lo=none∧vl=none)∨ ∃k q,lo=some q∧vl=some (.int k q))
  (hh:(hi=none∧vh=none)∨ ∃k q,hi=some q∧vh=some (.int k q)) (hm:(mx=none∧vm=none)∨ ∃k q,mx=some q∧vm=some (.int k q)) (hmh:mx.isNone=true∨hi.isSome=true)
  (ho: ∀b∈iS len lo hi mx,b=true) (hc:len≤cap):
  (Instr.sliceBounds isS len cap vl vh vm).run P w=.ok ((lo.map Int.toNat).getD 0,mA len hi,(mx.map Int.toNat).getD cap) w∧
   (lo.map Int.toNat).getD 0≤mA len hi∧mA len hi≤(mx.map Int.toNat).getD len∧(mx.map Int.toNat).getD len≤len:=by
 have inn: ∀(o:Option Int) (d:Int),(∀b∈inO o d,b=true)→ ∀x,o=some x→0≤x∧x≤d:=by
  intro o d hb x hx
  subst hx
  exact⟨by simpa using hb (decide (0≤x)) (by simp[inO]),by simpa using hb (decide (x≤d)) (by simp[inO])⟩
 have b1:=inn lo (J6 hi len) (fun b hb=>ho b (by simp[iS,hb]))
 have b2:=inn hi (J6 mx len) (fun b hb=>ho b (by simp[iS,hb]))
 have b3:=inn mx len (fun b hb=>ho b (by simp[iS,hb]))
 clear ho inn
 rcases hl with⟨rfl,rfl⟩|⟨kl,ql,rfl,rfl⟩<;>rcases hh with⟨rfl,rfl⟩|⟨kh,qh,rfl,rfl⟩<;>rcases hm with⟨rfl,rfl⟩|⟨km,qm,rfl,rfl⟩<;>
  simp[J6,mA]at b1 b2 b3 hmh⊢
 ·simp[Instr.sliceBounds]
 ·have c1:qh≤(cap:Int):=by omega
  refine⟨?_,by omega⟩
  simp[Instr.sliceBounds,Instr.sliceBound,asIntOf,b2,c1]
 ·have c1:qm≤(cap:Int):=by omega
  refine⟨?_,by omega⟩
  simp[Instr.sliceBounds,Instr.sliceBound,asIntOf,b2,b3,c1]
  omega
 ·refine⟨?_,by omega⟩
  simp[Instr.sliceBounds,Instr.sliceBound,asIntOf,b1]
 ·have c1:qh≤(cap:Int):=by omega
  refine⟨?_,by omega⟩
  simp[Instr.sliceBounds,Instr.sliceBound,asIntOf,b1,b2,c1]
  omega
 ·have c1:qm≤(cap:Int):=by omega
  refine⟨?_,by omega⟩
  simp[Instr.sliceBounds,Instr.sliceBound,asIntOf,b1,b2,b3,c1]
  rw[if_pos (by omega),if_pos (by omega)]
end
end
section
variable {X : Nat → Prop}
theorem kW (n:Nat) (o:Option Int):EP n o=n-(o.map Int.toNat).getD 0:=by cases o<;>simp[EP]
theorem zS (n:Nat) (o:Option Int):JA n o=(o.map Int.toNat).getD 0+n:=by cases o<;>simp[JA]
theorem mQ {cap:Option Nat} {lo mx:Option Int} {k:Nat} (h:mR cap k):mR (DE cap lo mx) ((mx.map Int.toNat).getD k-(lo.map Int.toNat).getD 0):=by
 intro q hq
 unfold DE at hq
 cases mx with
 |some m=>simp at hq⊢;rw[←hq,kW]
 |none=>
  cases cap with
  |none=>cases hq
  |some c=>have:=h c rfl;simp at hq⊢;rw[←hq,kW,this]
section
variable {P : Program} {tt : Tab} (hT : iV P tt) {w0 w : World} {M : Nat → Prop} {h : List aW} {ρ : Rho} (m : Mem X w0 M h ρ w)
 {get:Get} (hg: ∀id c,get id=.live c→Heap.get h id=.live c)
include m
omit m in
theorem lA {t e sz:Nat} (hu:P.underlying t=some (.slice e)) (hs:(sizeOf e).run P w=.ok sz w) {a:Option Addr} {len cap l hh mm:Nat} {vl vh vm:Option Value}
  (hb:(Instr.sliceBounds true len cap vl vh vm).run P w=.ok (l,hh,mm) w):
  (Instr.sliceAt t (.slice a len cap) vl vh vm).run P w=.ok (.slice (if mm=l then a else a.map (·.add (l*sz))) (hh-l) (mm-l)) w:=by
 simp[Instr.sliceAt,Instr.slice,run_underlying hu,hb,hs]
include hT hg in
theorem F6 {t:Nat} {x:AV} {lo hi mx:Option AV} {v:Value} {vl vh vm:Option Value} (hx:AVR X w ρ x v)
  (hl: ∀y,lo=some y→ ∃u,vl=some u∧AVR X w ρ y u) (hl':lo=none→vl=none) (hh: ∀y,hi=some y→ ∃u,vh=some u∧AVR X w ρ y u) (hh':hi=none→vh=none)
  (hm: ∀y,mx=some y→ ∃u,vm=some u∧AVR X w ρ y u) (hm':mx=none→vm=none) {e:Eff} (he:BY tt get t x lo hi mx=some e) (ho: ∀b∈e.obl,b=true):
  Res X P w0 M h ρ w e (Instr.sliceAt t v vl vh vm):=by
 unfold BY at he
 replace he:=Option.bind_eq_some_iff.1 he
 obtain⟨ti,hti,he⟩:=he
 obtain⟨i,z,d,k⟩:=bR hT hti
 replace he:=Option.bind_eq_some_iff.1 he
 obtain⟨ql,bl,he⟩:=he
 replace he:=Option.bind_eq_some_iff.1 he
 obtain⟨qh,bh,he⟩:=he
 replace he:=Option.bind_eq_some_iff.1 he
 obtain⟨qm,bm,he⟩:=he
 have sl:=oO hl hl' bl
 have sh:=oO hh hh' bh
 have sm:=oO hm hm' bm
 split at he
 ·rename_i e' id o len es cap hfs
  replace he:=Option.bind_eq_some_iff.1 he
  obtain⟨te,hte,he⟩:=he
  obtain⟨i',z',d',k'⟩:=bR hT hte
  cases hc:(decide (te.size=es)&&hJ get id&&(qm.isNone||qh.isSome))with
  |false=>rw[hc]at he;cases he
  |true=>
  rw[hc]at he
  simp only[Bool.and_eq_true,rpS,decide_eq_true_eq,Bool.or_eq_true]at hc
  obtain⟨⟨rfl,hal⟩,hmh⟩:=hc
  obtain⟨c,hal⟩:=iF hal
  injection he with he;subst he
  rcases cW m (hg _ _ hal) (cN hx)with⟨b,kk,ty,nn,hb,rfl,hrow,hsh,hn,hlk,hcap⟩|⟨a,rfl,rfl,hcap⟩
  ·obtain⟨r1,r2,r3,r4⟩:=jE (P:=P) (w:=w) (isS:=true) sl sh sm hmh ho hlk
   refine⟨_,w,ρ,lA (cD k hfs) (bW k' w) r1,bN.refl _ _,m,.c _ _ ?_⟩
   rw[kW,zS]
   generalize hL:(ql.map Int.toNat).getD 0=L at*
   have hmk:(qm.map Int.toNat).getD kk≤kk∧mA len qh≤(qm.map Int.toNat).getD kk:=by
    cases qm with
    |none=>simp at r3 r4⊢;omega
    |some m=>simp at r3 r4⊢;omega
   have hco:=mQ (lo:=ql) (mx:=qm) hcap
   rw[hL]at hco
   generalize hM:(qm.map Int.toNat).getD kk=K at*
   by_cases e0:K=L
   ·rw[if_pos e0]
    have e1:mA len qh-L=0:=by omega
    have e2:K-L=0:=by omega
    rw[e1,e2]
    rw[e2]at hco
    exact .slNone id _ te.size _ _ (by rw[hb];simp) hco
   ·rw[if_neg e0]
    simp only[Option.map_some,dU]
    have e3:o*te.size+L*te.size=(L+o)*te.size:=by rw[Nat.add_mul];omega
    rw[e3]
    refine .sl id (L+o) _ te.size _ b _ ty nn hb hsh ?_ (by omega) hco
    have:(L+o+(K-L))*te.size≤(o+kk)*te.size:=Nat.mul_le_mul_right _ (by omega)
    omega
  ·obtain⟨r1,r2,r3,r4⟩:=jE (P:=P) (w:=w) (isS:=true) sl sh sm hmh ho (Nat.le_refl 0)
   refine⟨_,w,ρ,lA (cD k hfs) (bW k' w) r1,bN.refl _ _,m,.c _ _ ?_⟩
   rw[kW,zS]
   have hco:=mQ (lo:=ql) (mx:=qm) hcap
   have e1:(ql.map Int.toNat).getD 0=0:=by omega
   have e2:mA 0 qh=0:=by omega
   have e3:(qm.map Int.toNat).getD 0=0:=by omega
   rw[e1,e3]at hco
   rw[e1,e2,e3]
   have hne:ρ id≠ .unborn:=fun e=>by
    have:=m.slot id;rw[hg _ _ hal,e]at this;exact this
   exact .slNone id _ te.size _ _ hne hco
 ·rename_i e' nl c len es cap hfs
  replace he:=Option.bind_eq_some_iff.1 he
  obtain⟨te,hte,he⟩:=he
  obtain⟨i',z',d',k'⟩:=bR hT hte
  cases hc:(decide (te.size=es)&&(qm.isNone||qh.isSome))with
  |false=>rw[hc]at he;cases he
  |true=>
  rw[hc]at he
  simp only[Bool.and_eq_true,rpS,decide_eq_true_eq,Bool.or_eq_true]at hc
  obtain⟨rfl,hmh⟩:=hc
  dsimp only[cond_true]at he
  replace he:=Option.bind_eq_some_iff.1 he
  obtain⟨c',hsub,he⟩:=he
  injection he with he;subst he
  have hiE: ∀len,(qh.map Int.toNat).getD len=mA len qh:=fun len=>by cases qh<;>simp[mA]
  cases cN hx with
  |view _ _ _ _ _ b base kk u hlv hcv huv hz hk hcap hnl=>
   obtain⟨r1,r2,r3,r4⟩:=jE (P:=P) (w:=w) (isS:=true) sl sh sm hmh ho hk
   obtain⟨s1,s2⟩:=pL hsub hz (by rw[hiE];omega) (by rw[hiE];exact r2)
   refine⟨_,w,ρ,lA (cD k hfs) (bW k' w) r1,bN.refl _ _,m,.c _ _ ?_⟩
   rw[kW]
   rw[hiE]at s1
   have hco:=mQ (lo:=ql) (mx:=qm) hcap
   have hmk:mA len qh≤(qm.map Int.toNat).getD kk:=by
    cases qm with
    |none=>simp at r3 r4⊢;omega
    |some m=>simp at r3 r4⊢;omega
   generalize hL:(ql.map Int.toNat).getD 0=L at*
   generalize hM:(qm.map Int.toNat).getD kk=K at*
   by_cases e0:K=L
   ·rw[if_pos e0]
    have e1:mA len qh-L=0:=by omega
    have e2:K-L=0:=by omega
    rw[e1,e2]
    rw[e2]at hco
    rw[e1]at s1
    exact .viewNone none c' te.size _ _ 0 (by simpa using s1) hco (fun _ h=>by cases h) (fun _=>rfl)
   ·rw[if_neg e0]
    simp only[Option.map_some,dU]
    have hle:(mA len qh)*te.size≤len*te.size:=Nat.mul_le_mul_right _ (by omega)
    have hin: ∀q,q<c'.size→L*te.size+q<c.size:=fun q hq=>by
     rw[s1,Nat.sub_mul]at hq;omega
    refine .view none c' _ te.size _ b (base+L*te.size) _ (fun q=>u (L*te.size+q)) (fun h0=>hlv (by have:=hin 0 h0;omega)) (fun q hq=> ?_) (fun q hq=> ?_) s1.symm (by omega) hco (fun _ h=>by cases h)
    ·have:=hcv _ (hin q hq);rwa[←Nat.add_assoc]at this
    ·rw[s2 q hq];exact huv _ (hin q hq)
  |viewNone _ _ _ _ a kk hz hcap hnl hk=>
   obtain⟨r1,r2,r3,r4⟩:=jE (P:=P) (w:=w) (isS:=true) (cap:=kk) sl sh sm hmh ho (Nat.zero_le _)
   obtain⟨s1,s2⟩:=pL (len:=0) hsub (by simpa using hz.symm) (by rw[hiE];omega) (by rw[hiE];exact r2)
   refine⟨_,w,ρ,lA (cD k hfs) (bW k' w) r1,bN.refl _ _,m,.c _ _ ?_⟩
   rw[kW]
   have hco:=mQ (lo:=ql) (mx:=qm) hcap
   have e1:(ql.map Int.toNat).getD 0=0:=by omega
   have e2:mA 0 qh=0:=by omega
   rw[hiE,e2]at s1
   have e4:c'.size=0:=by simpa using s1
   rw[e1]at hco
   rw[e1,e2]
   refine .viewNone none c' te.size _ _ _ e4 hco (fun _ h=>by cases h) (fun hn=> ?_)
   cases a with
   |none=>
    have:=hk rfl
    subst this
    cases qm with
    |none=>rfl
    |some m=>simp at r4⊢;omega
   |some a=>split at hn<;>simp at hn
 ·rename_i n e' id hfs
  replace he:=Option.bind_eq_some_iff.1 he
  obtain⟨te,hte,he⟩:=he
  obtain⟨i',z',d',k'⟩:=bR hT hte
  split at he
  ·rename_i c hs
   injection he with he;subst he
   have hsz:n*te.size≤c.size:=by simpa using ho (decide (n*te.size≤c.size)) (by simp)
   obtain⟨b,hb,rfl,cs,ty,hrow,hrs,hcs⟩:=gU m (hg _ _ hs) (cN hx)
   have e1:vl=none:=sl.elim (fun h=>h.2) fun⟨_,_,h,_⟩=>by cases h
   have e2:vh=none:=sh.elim (fun h=>h.2) fun⟨_,_,h,_⟩=>by cases h
   have e3:vm=none:=sm.elim (fun h=>h.2) fun⟨_,_,h,_⟩=>by cases h
   subst e1 e2 e3
   have hsh:w.shape? b=some (ty,cs.size):=by simp[World.shape?,hrow]
   refine⟨.slice (some ⟨b,0,none⟩) n n,w,ρ, ?_,bN.refl _ _,m,.c _ _ ?_⟩
   ·simp[Instr.sliceAt,run_underlying (g8 k hfs),Instr.sureAddr,Instr.sliceBounds,bW k',dU]
   ·have:=CR0.sl (w:=w) (L:=fun b=>bH ρ b∨X b) (ρ:=ρ) id 0 n te.size (some n) b n ty cs.size hb hsh (by rw[Nat.zero_add];omega) (Nat.le_refl _) (fun q hq=>Option.some.inj hq)
    simpa using this
  ·cases he
 ·cases he
end
end
section
variable {X : Nat → Prop} {P : Program}
theorem qK (w:World) {d:Nat} {e:TypeId} {k:IntKind} (he:P.underlying e=some (.int k)) {xs ys:Array Value}: ∀(is:List Nat) (f g:Nat→Int) (kk:Nat→IntKind),(∀i∈is,xs[i]? =some (.int (kk i) (f i))∧ys[i]? =some (.int (kk i) (g i)))→
  (Op.eqItems (d+1) e 1 xs ys is).run P w=.ok (is.all fun i=>f i==g i) w
 |[],f,g,kk,h=>by simp[Op.eqItems]
 |i::is,f,g,kk,h=>by
  obtain⟨h1,h2⟩:=h i (by simp)
  have hp:P.plainKey e=true:=by unfold Program.plainKey;rw[he]
  have r1:=run_part_plain (P:=P) w hp h1
  have r2:=run_part_plain (P:=P) w hp h2
  have r3:=run_equalIn_int (P:=P) w d e (kk i) k (f i) (g i) he
  have ih:=qK w (d:=d) he is f g kk fun j hj=>h j (by simp[hj])
  simp only[Op.eqItems,Nat.mul_one,Sem.run_bind,r1,r2,r3,Result.andThen_ok]
  cases hq:f i==g i with
  |false=>simp[hq]
  |true=>rw[List.all_cons,hq,Bool.true_and];simpa using ih
theorem z0: ∀ {cs ds:List aF} {b:Bool},eqI cs ds=some b→ds.length=cs.length∧ ∃(f g:Nat→Int) (kk:Nat→IntKind),(∀i,i<cs.length→cs.getD i .any=.int (kk i) (f i)∧ds.getD i .any=.int (kk i) (g i))∧b=(List.range cs.length).all fun i=>f i==g i
 |[],[],b,h=>by
  simp only[eqI,Option.some.injEq]at h
  exact⟨rfl,fun _=>0,fun _=>0,fun _=> .i64,fun i hi=>by simp at hi,by simp[←h]⟩
 |.int k x::cs,.int k' y::ds,b,h=>by
  unfold eqI at h
  split at h
  ·rename_i hk
   subst hk
   cases hr:eqI cs ds with
   |none=>rw[hr]at h;cases h
   |some c=>
    rw[hr]at h
    simp only[Option.map_some,Option.some.injEq]at h
    obtain⟨h1,f,g,kk,h2,h3⟩:=z0 hr
    refine⟨by simp[h1],fun i=>match i with|0=>x|i+1=>f i,fun i=>match i with|0=>y|i+1=>g i,fun i=>match i with|0=>k|i+1=>kk i,fun i hi=> ?_, ?_⟩
    ·match i,hi with
     |0,_=>exact⟨rfl,rfl⟩
     |i+1,hi=>exact h2 i (by simpa using hi)
    ·rw[←h,h3,List.length_cons,List.range_succ_eq_map,List.all_cons,List.all_map];rfl
  ·cases h
 |[],.int _ _::_,b,h=>by cases h
end
section
variable {X : Nat → Prop}
def xA (op:BinOp) (t:TypeId) (x y:Operand) (a b:Value):Sem Value:=do eqGuard op t x y a b;binOp op t a b
theorem tX {xs:List Int} {o n:Nat} (h:o+n≤xs.length):(gM xs o n).length=xs.length:=by
 simp[gM];omega
theorem CX {xs:List Int} {o n q:Nat} (h:o+n≤xs.length) (hq:q<xs.length):(gM xs o n).getD q 0=if o≤q∧q<o+n then 0 else xs.getD q 0:=by
 unfold gM
 rw[List.getD_eq_getElem?_getD,List.getElem?_append,List.length_take]
 by_cases h1:q<o
 ·rw[if_pos (by omega),if_neg (by omega),List.getElem?_take,if_pos h1,List.getD_eq_getElem?_getD]
 ·rw[if_neg (by omega),List.getElem?_append,List.length_replicate]
  by_cases h2:q<o+n
  ·rw[if_pos (by omega),if_pos (by omega),List.getElem?_replicate,if_pos (by omega)];rfl
  ·rw[if_neg (by omega),if_neg (by omega),List.getElem?_drop,List.getD_eq_getElem?_getD]
   congr 2;omega
section
variable {P : Program} {tt : Tab} (hT : iV P tt) {w0 w : World} {M : Nat → Prop} {h : List aW} {ρ : Rho} (m : Mem X w0 M h ρ w)
 {get:Get} (hg: ∀id c,get id=.live c→Heap.get h id=.live c)
include m
omit m in
theorem pF {op:BinOp} {t:TypeId} {x y:Operand} {a b:Value} (ha: ∀cs,a≠ .agg cs) (hn:a≠ .nilIface):(eqGuard op t x y a b).run P w=.ok () w:=by
 cases a<;>first|exact absurd rfl hn|exact absurd rfl (ha _)|(cases op<;>rfl)
theorem JI {op:BinOp} {t:TypeId} {ox oy:Operand} {x y c:aF} {o:List Bool} {v u:Value} (hx:CR X w ρ x v) (hy:CR X w ρ y u) (he:PP op x y=some (c,o)) (ho: ∀b∈o,b=true):
  ∃r,(xA op t ox oy v u).run P w=.ok r w∧CR X w ρ c r:=by
 unfold PP at he
 split at he
 ·rename_i k a yk b
  cases hx;cases hy
  have hgd:(eqGuard op t ox oy (.int k a) (.int yk b)).run P w=.ok () w:=pF (by simp) (by simp)
  have fin: ∀r,(binOp op t (.int k a) (.int yk b)).run P w=.ok r w→CR X w ρ c r→ ∃r,(xA op t ox oy (.int k a) (.int yk b)).run P w=.ok r w∧CR X w ρ c r:=
   fun r h1 h2=>⟨r,by simp[xA,hgd,h1],h2⟩
  split at he
  ·split at he
   ·injection he with he;injection he with h1 h2;subst h1 h2
    rename_i nb
    exact fin _ (by simp[binOp,Op.shift];intro hx;exfalso;omega) (.int _ _)
   ·cases he
  ·split at he
   ·injection he with he;injection he with h1 h2;subst h1 h2
    rename_i nb
    exact fin _ (by simp[binOp,Op.shift];intro hx;exfalso;omega) (.int _ _)
   ·cases he
  ·rename_i hs1 hs2
   split at he
   ·rename_i hk;subst hk
    split at he
    all_goals try (cases he;done)
    all_goals (injection he with he;injection he with h1 h2;subst h1 h2)
    ·exact fin _ (by simp[binOp,Op.intArith]) (.int _ _)
    ·exact fin _ (by simp[binOp,Op.intArith]) (.int _ _)
    ·exact fin _ (by simp[binOp,Op.intArith]) (.int _ _)
    ·have hb: ¬b=0:=by simpa using ho (!decide (b=0)) (by simp)
     exact fin _ (by simp[binOp,Op.intDiv,hb]) (.int _ _)
    ·have hb: ¬b=0:=by simpa using ho (!decide (b=0)) (by simp)
     exact fin _ (by simp[binOp,Op.intDiv,hb]) (.int _ _)
    ·exact fin _ (by simp[binOp,Op.intBits]) (.int _ _)
    ·exact fin _ (by simp[binOp,Op.intBits]) (.int _ _)
    ·exact fin _ (by simp[binOp,Op.intBits]) (.int _ _)
    ·exact fin _ (by simp[binOp,Op.intCmp]) (.bool _)
    ·exact fin _ (by simp[binOp,Op.intCmp]) (.bool _)
    ·exact fin _ (by simp[binOp,Op.intCmp]) (.bool _)
    ·exact fin _ (by simp[binOp,Op.intCmp]) (.bool _)
    ·exact fin _ (by simp[binOp,Op.intCmp]) (.bool _)
    ·exact fin _ (by simp[binOp,Op.intCmp]) (.bool _)
   ·cases he
 ·cases he
omit m in
theorem tM {t:TypeId} (hu:P.underlying t=some .bool) (a b:Bool):(Op.equal t (.bool a) (.bool b)).run P w=.ok (a==b) w:=by
 have: ∀d,(Op.equalIn (d+1) t (.bool a) (.bool b)).run P w=.ok (a==b) w:=fun d=>by simp[Op.equalIn,run_underlying hu]
 exact this 9999
omit m in
theorem iB {t e:TypeId} (hu:P.underlying t=some (.slice e)) (a:Option Addr) (n k:Nat):(Op.equal t (.slice a n k) (.slice none 0 0)).run P w=.ok a.isNone w:=by
 have: ∀d,(Op.equalIn (d+1) t (.slice a n k) (.slice none 0 0)).run P w=.ok a.isNone w:=fun d=>by cases a<;>simp[Op.equalIn,run_underlying hu]
 exact this 9999
omit m in
theorem uP {op:BinOp} {t e n:Nat} {k:IntKind} {x y:Operand} {xs ys:Array Value} (hu:P.underlying t=some (.array n e)) (he:P.underlying e=some (.int k)):(eqGuard op t x y (.agg xs) (.agg ys)).run P w=.ok () w:=by
 have h:P.eqGuardType P.depth t=false:=by
  unfold Program.depth
  show P.eqGuardType ((2*(P.types.size+Made.depth)+1)+1) t=false
  rw[Program.eqGuardType,hu]
  show P.eqGuardType ((2*(P.types.size+Made.depth))+1) e=false
  rw[Program.eqGuardType,he]
 cases op<;>simp[eqGuard,h]
omit m in
theorem uO {t e n:Nat} {k:IntKind} {i:TypeInfo} {xs ys:Array Value} (hu:P.underlying t=some (.array n e)) (he:P.underlying e=some (.int k)) (hi:P.info? e=some i) (hs:i.size=1) {f g:Nat→Int} {kk:Nat→IntKind}
  (h: ∀j,j<n→xs[j]? =some (.int (kk j) (f j))∧ys[j]? =some (.int (kk j) (g j))):(Op.equal t (.agg xs) (.agg ys)).run P w=.ok ((List.range n).all fun i=>f i==g i) w:=by
 unfold Op.equal Op.maxDepth
 rw[run_equalIn_array w 9999 xs ys hu hi]
 have hc:P.cellsOf e=1:=by simp[Program.cellsOf,hi,hs]
 rw[hc]
 exact qK w (d:=9998) he (List.range n) f g kk fun j hj=>h j (List.mem_range.1 hj)
include hT in
theorem F1 {op:BinOp} {t:Nat} {ox oy:Operand} {x y:AV} {v u:Value} (hx:AVR X w ρ x v) (hy:AVR X w ρ y u) {e:Eff} (he:x8 tt op t x y=some e) (ho: ∀b∈e.obl,b=true):
  Res X P w0 M h ρ w e (xA op t ox oy v u):=by
 unfold x8 at he
 split at he
 ·rename_i x y
  split at he
  ·rename_i c o hc
   injection he with he;subst he
   obtain⟨r,r1,r2⟩:=JI m (t:=t) (ox:=ox) (oy:=oy) (P:=P) (cN hx) (cN hy) hc ho
   exact⟨r,w,ρ,r1,bN.refl _ _,m,.c _ _ r2⟩
  ·rename_i hnone
   clear hnone
   replace he:=Option.bind_eq_some_iff.1 he
   obtain⟨ti,hti,he⟩:=he
   obtain⟨i,z,d,k⟩:=bR hT hti
   have key: ∀c,aeq ti.desc x y=some c→ ∃b,c=.bool b∧(Op.equal t v u).run P w=.ok b w∧(∀cs,v≠ .agg cs)∧v≠ .nilIface∧
     (binOp .eql t v u=(do pure (.bool (←Op.equal t v u))))∧(binOp .neq t v u=(do pure (.bool (!(←Op.equal t v u))))):=by
    intro c hc
    unfold aeq at hc
    split at hc
    ·rename_i a b hd
     injection hc with hc;subst hc
     cases cN hx;cases cN hy
     exact⟨_,rfl,tM (EJ k hd) _ _,by simp,by simp,rfl,rfl⟩
    ·rename_i e' hd
     injection hc with hc;subst hc
     cases cN hx;cases cN hy
     exact⟨_,rfl,iB (cD k hd) none 0 0,by simp,by simp,rfl,rfl⟩
    ·rename_i e' nl c' n es cap hd
     injection hc with hc;subst hc
     cases cN hy
     cases cN hx with
     |view _ _ _ _ _ b base kk u hl hc hu hz hk hcap hnl=>
      refine⟨_,rfl, ?_,by simp,by simp,rfl,rfl⟩
      rw[iB (cD k hd),hnl _ rfl];rfl
     |viewNone _ _ _ _ a kk hz hcap hnl hk=>
      refine⟨_,rfl, ?_,by simp,by simp,by cases a<;>rfl,by cases a<;>rfl⟩
      rw[iB (cD k hd),hnl _ rfl]
    ·cases hc
   split at he
   ·rename_i c hc
    injection he with he;subst he
    obtain⟨b,rfl,k1,k2,k3,k4,k5⟩:=key _ hc
    refine⟨.bool b,w,ρ, ?_,bN.refl _ _,m,.c _ _ (.bool _)⟩
    have hgd:(eqGuard .eql t ox oy v u).run P w=.ok () w:=pF k2 k3
    simp[xA,hgd,k4,k1]
   ·rename_i b hc
    injection he with he;subst he
    obtain⟨b',hb',k1,k2,k3,k4,k5⟩:=key _ hc
    injection hb' with hb';subst hb'
    refine⟨.bool (!b),w,ρ, ?_,bN.refl _ _,m,.c _ _ (.bool _)⟩
    have hgd:(eqGuard .neq t ox oy v u).run P w=.ok () w:=pF k2 k3
    simp[xA,hgd,k5,k1]
   ·cases he
 ·rename_i cs ds
  replace he:=Option.bind_eq_some_iff.1 he
  obtain⟨ti,hti,he⟩:=he
  obtain⟨i,z,d,k⟩:=bR hT hti
  split at he
  ·rename_i n e' hd
   replace he:=Option.bind_eq_some_iff.1 he
   obtain⟨te,hte,he⟩:=he
   obtain⟨i',z',d',k'⟩:=bR hT hte
   split at he
   ·rename_i kk hd'
    cases hq:decide (te.size=1)&&(decide (cs.length=n)&&decide (ds.length=n))with
    |false=>rw[hq]at he;cases he
    |true=>
    rw[hq,cond_true]at he
    simp only[Bool.and_eq_true,rpS,decide_eq_true_eq]at hq
    obtain⟨q1,q2,q3⟩:=hq
    have key: ∀b,eqI cs ds=some b→ ∃xs ys,v=.agg xs∧u=.agg ys∧(Op.equal t v u).run P w=.ok b w∧(eqGuard op t ox oy v u).run P w=.ok () w:=by
     intro b hb
     obtain⟨l1,f,g,kd,l2,rfl⟩:=z0 hb
     cases hx with
     |agg _ xs hxs hxc=>
      cases hy with
      |agg _ ys hys hyc=>
       refine⟨xs,ys,rfl,rfl, ?_,uP (g8 k hd) (mV k' hd')⟩
       rw[q2]
       refine uO (g8 k hd) (mV k' hd') k'.info (by rw[k'.size,q1]) (f:=f) (g:=g) (kk:=kd) fun j hj=> ?_
       obtain⟨c1,c2⟩:=l2 j (by omega)
       have e1:=hxc j (by omega)
       have e2:=hyc j (by omega)
       rw[c1]at e1
       rw[c2]at e2
       have s1:j<xs.size:=by omega
       have s2:j<ys.size:=by omega
       simp only[Array.getD_eq_getD_getElem?,Array.getElem?_eq_getElem s1,Option.getD_some]at e1
       simp only[Array.getD_eq_getD_getElem?,Array.getElem?_eq_getElem s2,Option.getD_some]at e2
       rw[Array.getElem?_eq_getElem s1,Array.getElem?_eq_getElem s2]
       constructor
       ·generalize xs[j]=q at e1;cases e1;rfl
       ·generalize ys[j]=q at e2;cases e2;rfl
    split at he
    ·rename_i b hb
     injection he with he;subst he
     obtain⟨xs,ys,rfl,rfl,k1,k2⟩:=key _ hb
     exact⟨.bool b,w,ρ,by simp[xA,k2,binOp,k1],bN.refl _ _,m,.c _ _ (.bool _)⟩
    ·rename_i b hb
     injection he with he;subst he
     obtain⟨xs,ys,rfl,rfl,k1,k2⟩:=key _ hb
     exact⟨.bool (!b),w,ρ,by simp[xA,k2,binOp,k1],bN.refl _ _,m,.c _ _ (.bool _)⟩
    ·cases he
   ·cases he
  ·cases he
 ·cases he
theorem JM {op:UnOp} {x:AV} {v:Value} (hx:AVR X w ρ x v) {e:Eff} (he:aun op x=some e):Res X P w0 M h ρ w e (Op.unary op v):=by
 unfold aun at he
 split at he
 ·injection he with he;subst he
  obtain rfl:=g7 hx
  exact⟨_,w,ρ,by simp[Op.unary],bN.refl _ _,m,.c _ _ (.bool _)⟩
 ·injection he with he;subst he
  obtain rfl:=dF hx
  exact⟨_,w,ρ,by simp[Op.unary,Op.intArith],bN.refl _ _,m,.c _ _ (.int _ _)⟩
 ·cases he
include hT in
theorem zW {s t:Nat} {x:AV} {v:Value} (hx:AVR X w ρ x v) {e:Eff} (he:s9 tt s t x=some e):Res X P w0 M h ρ w e (convert s t v):=by
 unfold s9 at he
 replace he:=Option.bind_eq_some_iff.1 he
 obtain⟨si,hsi,he⟩:=he
 replace he:=Option.bind_eq_some_iff.1 he
 obtain⟨ti,hti,he⟩:=he
 obtain⟨i,z,d,k⟩:=bR hT hsi
 obtain⟨i',z',d',k'⟩:=bR hT hti
 split at he
 ·rename_i k1 k2 k3 n h1 h2
  injection he with he;subst he
  obtain rfl:=dF hx
  exact⟨_,w,ρ,by simp[convert,run_underlying (mV k h1),run_underlying (mV k' h2),Conv.intToInt],bN.refl _ _,m,.c _ _ (.int _ _)⟩
 ·rename_i s h1 h2
  injection he with he;subst he
  obtain rfl:=x9 hx
  exact⟨_,w,ρ,by simp[convert,run_underlying (mW k h1),run_underlying (mW k' h2)],bN.refl _ _,m,.c _ _ (.str _)⟩
 ·cases he
include hT hg in
theorem N8 {t ty:Nat} {x:AV} {v:Value} (hx:AVR X w ρ x v) {e:Eff} (he:PQ tt get t x=some e):Res X P w0 M h ρ w e (Builtin.len_ #[t] ty #[v]):=by
 unfold PQ at he
 replace he:=Option.bind_eq_some_iff.1 he
 obtain⟨ti,hti,he⟩:=he
 obtain⟨i,z,d,k⟩:=bR hT hti
 have rs: ∀ {e':Nat} (a:Option Addr) (n c:Nat),ti.desc=.slice e'→(Builtin.len_ #[t] ty #[.slice a n c]).run P w=.ok (.int .i64 n) w:=fun a n c hd=>by
  simp[Builtin.len_,run_underlying (cD k hd),goInt]
 split at he
 ·rename_i e' hd
  injection he with he;subst he
  cases cN hx
  exact⟨_,w,ρ,rs _ _ _ hd,bN.refl _ _,m,.c _ _ (.int _ _)⟩
 ·rename_i e' id o len es cap hd
  cases hal:hJ get id with
  |false=>rw[hal]at he;cases he
  |true=>
  rw[hal]at he
  obtain⟨c,hal⟩:=iF hal
  injection he with he;subst he
  rcases cW m (hg _ _ hal) (cN hx)with⟨b,kk,ty',nn,hb,rfl,hrow,hsh,hn,hlk,hcap⟩|⟨a,rfl,rfl,hcap⟩
  ·exact⟨_,w,ρ,rs _ _ _ hd,bN.refl _ _,m,.c _ _ (.int _ _)⟩
  ·exact⟨_,w,ρ,rs _ _ _ hd,bN.refl _ _,m,.c _ _ (.int _ _)⟩
 ·rename_i e' nl c len es cap hd
  injection he with he;subst he
  cases cN hx with
  |view _ _ _ _ _ b base kk u hl hc hu hz hk hcap hnl=>exact⟨_,w,ρ,rs _ _ _ hd,bN.refl _ _,m,.c _ _ (.int _ _)⟩
  |viewNone _ _ _ _ a kk hz hcap hnl hk=>exact⟨_,w,ρ,rs _ _ _ hd,bN.refl _ _,m,.c _ _ (.int _ _)⟩
 ·rename_i s hd
  injection he with he;subst he
  obtain rfl:=x9 hx
  exact⟨_,w,ρ,by simp[Builtin.len_,run_underlying (mW k hd),goInt],bN.refl _ _,m,.c _ _ (.int _ _)⟩
 ·cases he
include hT hg in
theorem F3 {t ty:Nat} {x:AV} {v:Value} (hx:AVR X w ρ x v) {e:Eff} (he:BV tt get t x=some e) (ho: ∀b∈e.obl,b=true):Res X P w0 M h ρ w e (Builtin.clear_ #[t] ty #[v]):=by
 unfold BV at he
 replace he:=Option.bind_eq_some_iff.1 he
 obtain⟨ti,hti,he⟩:=he
 obtain⟨i,z,d,k⟩:=bR hT hti
 split at he
 ·rename_i e' id o len cap hd
  replace he:=Option.bind_eq_some_iff.1 he
  obtain⟨te,hte,he⟩:=he
  obtain⟨i',z',d',k'⟩:=bR hT hte
  split at he
  ·rename_i zc kk xs hz hs
   cases hzz:isZ kk zc with
   |false=>rw[hzz]at he;cases he
   |true=>
   rw[hzz]at he
   injection he with he;subst he
   have hle:o+len≤xs.length:=by simpa using ho _ (List.mem_singleton.2 rfl)
   have hs':=hg _ _ hs
   have hzc:=sP hzz
   subst hzc
   have hlr:=i4 (X:=X) k' w ρ
   rw[hz]at hlr
   have hzv:z'.cells= #[.int kk 0]:=by
    have h1:z'.cells.size=1:=by simpa using hlr.1
    have h2:=hlr.2 0 (by simp)
    simp only[List.getD_cons_zero]at h2
    cases h3:z'.cells.toList with
    |nil=>
     have:z'.cells.toList.length=1:=by simpa using h1
     rw[h3]at this;simp at this
    |cons a r=>
     have hr:r=[]:=by
      have:z'.cells.toList.length=1:=by simpa using h1
      rw[h3]at this;simpa using this
     subst hr
     rw[h3]at h2
     simp only[List.getD_cons_zero]at h2
     cases h2
     exact Array.toList_inj.1 (by simpa using h3)
   rcases cW m hs' (cN hx)with⟨b,kcap,ty',nn,hb,rfl,hrow,hsh,hn,hlk,hcap⟩|⟨a,rfl,rfl,hcap⟩
   ·obtain⟨cs,tyr,hrw,hsz,hcs⟩:=hrow
    simp only[Con.size]at hsz hcs
    by_cases hl0:len=0
    ·subst hl0
     have e0:gM xs o 0=xs:=by simp[gM]
     obtain⟨g1,g2⟩:=m.write hb (.ints kk (gM xs o 0)) cs cs tyr hrw rfl (by rw[e0];exact hsz) (fun q hq=>by rw[e0]at hq⊢;exact hcs q hq)
     have hw:w.setRow b cs=w:=setRow_self w b cs tyr (0,0) hrw
     rw[hw]at g1 g2
     exact⟨_,w,ρ,by simp[Builtin.clear_,run_underlying (cD k hd)],g1,by simpa [cV]using g2,.tup [] #[] rfl (fun i hi=>by simp at hi)⟩
    ·have hzl:(Builtin.zeroCells z'.cells len).toList=List.replicate len (.int kk 0):=by
      rw[hzv]
      apply List.ext_getElem?
      intro q
      simp[Builtin.zeroCells,List.getElem?_replicate]
      by_cases hq:q<len<;>simp[hq,Nat.mod_one]
     have hst:=run_storeCells_at P b (o*1) tyr (List.replicate len (.int kk 0)) 0 cs w hrw (by simp;omega) (fun u hu=>by rw[List.eq_of_mem_replicate hu];rfl)
     obtain⟨g1,g2⟩:=m.write hb (.ints kk (gM xs o len)) cs (cs.toList.take (o*1+0)++List.replicate len (Value.int kk 0)++cs.toList.drop (o*1+0+(List.replicate len (Value.int kk 0)).length)).toArray tyr hrw
      (by simp;omega) (by simp only[Con.size,tX hle];simp;omega) (fun q hq=>by
       simp only[Con.size,tX hle]at hq
       simp only[Con.cell]
       rw[CX hle hq]
       have h0:=hcs q hq
       simp only[Con.cell]at h0
       simp only[Nat.mul_one,Nat.add_zero,List.length_replicate,Array.getD_eq_getD_getElem?,List.getElem?_toArray]
       rw[List.append_assoc,List.getElem?_append,List.length_take]
       have hcl:cs.toList.length=cs.size:=by simp
       by_cases h1:q<o
       ·rw[if_neg (by omega),if_pos (by omega),List.getElem?_take,if_pos h1]
        simpa [Array.getD_eq_getD_getElem?]using h0
       ·by_cases h2:q<o+len
        ·rw[if_pos (by omega),if_neg (by omega),List.getElem?_append,List.length_replicate,if_pos (by omega),List.getElem?_replicate,if_pos (by omega)]
         exact .int _ _
        ·rw[if_neg (by omega),if_neg (by omega),List.getElem?_append,List.length_replicate,if_neg (by omega),List.getElem?_drop]
         rw[show o+len+(q-min o cs.toList.length-len)=q from by omega]
         simpa [Array.getD_eq_getD_getElem?]using h0)
     refine⟨.tuple #[],_,ρ, ?_,g1,by simpa [cV]using g2,.tup [] #[] rfl (fun i hi=>by simp at hi)⟩
     have hl1:len≠0:=hl0
     cases len with
     |zero=>exact absurd rfl hl0
     |succ len=>
      simp[Builtin.clear_,run_underlying (cD k hd),hE k',hzl]at hst⊢
      rw[hst];rfl
   ·have e0:gM xs o 0=xs:=by simp[gM]
    have hm:=m.slot id
    rw[hs']at hm
    refine⟨.tuple #[],w,ρ,by cases a<;>simp[Builtin.clear_,run_underlying (cD k hd)],bN.refl _ _, ?_,.tup [] #[] rfl (fun i hi=>by simp at hi)⟩
    have:cV h [(id,aW.live (.ints kk (gM xs o 0)))]=h:=by
     simp only[cV]
     rw[e0]
     apply List.ext_getElem?
     intro q
     rw[List.getElem?_set]
     by_cases hq:id=q
     ·subst hq
      have hlt:id<h.length:=Heap.lt_of_live (by rw[hs'];simp)
      rw[if_pos rfl,if_pos hlt]
      unfold Heap.get at hs'
      rw[List.getD_eq_getElem?_getD,List.getElem?_eq_getElem hlt]at hs'
      rw[List.getElem?_eq_getElem hlt];simpa using hs'.symm
     ·rw[if_neg hq]
    dsimp only
    rw[this];exact m
  ·cases he
 ·cases he
theorem N9 {x y:AV} {v u:Value} (hx:AVR X w ρ x v) (hy:AVR X w ρ y u) {a:Array TypeId} {ty:TypeId} {e:Eff} (he:EA true x y=some e):Res X P w0 M h ρ w e (Builtin.max_ a ty #[v,u]):=by
 unfold EA at he
 split at he
 ·split at he
  ·rename_i hk;subst hk
   injection he with he;subst he
   obtain rfl:=dF hx;obtain rfl:=dF hy
   exact⟨_,w,ρ,by simp[Builtin.max_,Builtin.max2],bN.refl _ _,m,.c _ _ (.int _ _)⟩
  ·cases he
 ·cases he
theorem NA {x y:AV} {v u:Value} (hx:AVR X w ρ x v) (hy:AVR X w ρ y u) {a:Array TypeId} {ty:TypeId} {e:Eff} (he:EA false x y=some e):Res X P w0 M h ρ w e (Builtin.min_ a ty #[v,u]):=by
 unfold EA at he
 split at he
 ·split at he
  ·rename_i hk;subst hk
   injection he with he;subst he
   obtain rfl:=dF hx;obtain rfl:=dF hy
   exact⟨_,w,ρ,by simp[Builtin.min_,Builtin.min2],bN.refl _ _,m,.c _ _ (.int _ _)⟩
  ·cases he
 ·cases he
theorem JL {c x y:AV} {vc v u:Value} (hc:AVR X w ρ c vc) (hx:AVR X w ρ x v) (hy:AVR X w ρ y u) {e:Eff} (he:H5 c x y=some e) (ho: ∀b∈e.obl,b=true):
  Res X P w0 M h ρ w e (do pure (if←asBool vc then v else u)):=by
 unfold H5 at he
 split at he
 ·injection he with he;subst he
  obtain rfl:=g7 hc
  rename_i b
  have hb':b=false:=by simpa using ho (!b) (by simp)
  subst hb'
  exact⟨u,w,ρ,by simp[asBool],bN.refl _ _,m,hy⟩
 ·injection he with he;subst he
  obtain rfl:=g7 hc
  rename_i b _
  have hb':b=true:=by simpa using ho b (by simp)
  subst hb'
  exact⟨v,w,ρ,by simp[asBool],bN.refl _ _,m,hx⟩
 ·injection he with he;subst he
  obtain rfl:=g7 hc
  obtain rfl:=g7 hx
  obtain rfl:=g7 hy
  rename_i b x' y'
  exact⟨.bool (bif b then x' else y'),w,ρ,by cases b<;>simp[asBool],bN.refl _ _,m,.c _ _ (.bool _)⟩
 ·cases he
theorem zX {x:AV} {v:Value} {i:Nat} (hx:AVR X w ρ x v) {e:Eff} (he:sA x i=some e):Res X P w0 M h ρ w e (Instr.extract v i):=by
 unfold sA at he
 split at he
 ·rename_i vs
  replace he:=Option.bind_eq_some_iff.1 he
  obtain⟨y,hy,he⟩:=he
  injection he with he;subst he
  cases hx with
  |tup _ us hs hh=>
   have hlt:i<vs.length:=(List.getElem?_eq_some_iff.1 hy).1
   have hlt2:i<us.size:=by omega
   have:=hh i hlt
   refine⟨us[i],w,ρ,by simp[Instr.extract,hlt2],bN.refl _ _,m, ?_⟩
   simpa [List.getD_eq_getElem?_getD,hy,Array.getD,hlt2]using this
 ·cases he
theorem H6 {f:FuncId} {caps:List aF} {v:Value} (hh:AVR X w ρ (.c (.fn f caps)) v): ∃vs:Array Value,v=.func (.func f) #[] vs∧LR X w ρ caps vs.toList:=by
 clear m
 cases cN hh with
 |fn _ _ vs hs hc=>exact⟨vs,rfl,by simpa using hs,fun i hi=>by have:=hc i hi;simpa [Array.getD_eq_getD_getElem?,List.getD_eq_getElem?_getD]using this⟩
include hg in
theorem EQ {x:AV} {v:Value} (hx:AVR X w ρ x v) {e:Eff} (he:PR get x=some e):e= {val:=x,sets:=[],obl:=[]}∧((∃ad,v=.pointer (some ad))∨ ∃f vs,v=.func (.func f) #[] vs):=by
 unfold PR at he
 split at he
 ·split at he
  ·rename_i c hs
   injection he with he;subst he
   obtain⟨b,hb',e1,hrow⟩:=gU m (hg _ _ hs) (cN hx)
   exact⟨rfl,.inl ⟨_,e1⟩⟩
  ·cases he
 ·injection he with he;subst he
  refine⟨rfl,.inl ?_⟩
  cases cN hx;exact⟨_,rfl⟩
 ·injection he with he;subst he
  obtain⟨vs,e1,_⟩:=H6 m hx
  exact⟨rfl,.inr ⟨_,_,e1⟩⟩
 ·cases he
end
end
section
variable {X : Nat → Prop}
theorem xY {α:Type} {xs seg:List α} {o:Nat} (h:o+seg.length≤xs.length):(pH xs o seg).length=xs.length:=by
 simp[pH];omega
theorem E2 {α:Type} {xs seg:List α} {o q:Nat} {d:α} (h:o+seg.length≤xs.length):(pH xs o seg).getD q d=if o≤q∧q<o+seg.length then seg.getD (q-o) d else xs.getD q d:=by
 unfold pH
 rw[List.getD_eq_getElem?_getD,List.getElem?_append,List.length_take]
 by_cases h1:q<o
 ·rw[if_pos (by omega),if_neg (by omega),List.getElem?_take,if_pos h1,List.getD_eq_getElem?_getD]
 ·rw[if_neg (by omega),List.getElem?_append]
  by_cases h2:q<o+seg.length
  ·rw[if_pos (by omega),if_pos (by omega),List.getD_eq_getElem?_getD]
   congr 2;omega
  ·rw[if_neg (by omega),if_neg (by omega),List.getElem?_drop,List.getD_eq_getElem?_getD]
   congr 2;omega
section
variable {P : Program} {tt : Tab} (hT : iV P tt) {w0 w : World} {M : Nat → Prop} {h : List aW} {ρ : Rho} (m : Mem X w0 M h ρ w)
 {get:Get} (hg: ∀id c,get id=.live c→Heap.get h id=.live c)
include hT hg m in
theorem v5 {t u ty e':Nat} {te:TI} {i i':TypeInfo} {z z':Value} {dd dd':TypeDesc} {ti:TI} (k:iE P t ti i z dd) (k':iE P e' te i' z' dd') (hd:ti.desc=.slice e') (hsz:te.size=1)
  {id o len id2 o2 len2:Nat} {cap cap2:Option Nat} {c d c':Con} {v vy:Value} (hs:get id=.live c) (hs2:get id2=.live d) (hx:AVR X w ρ (.c (.sl id o len 1 cap)) v) (hy:AVR X w ρ (.c (.sl id2 o2 len2 1 cap2)) vy)
  (h1:0<len) (h2:0<len2) (h3:o+len≤c.size) (h4:o2+len2≤d.size) (hcs:c'.size=c.size)
  (hc': ∀q,q<c.size→c'.cell q=if o≤q∧q<o+Nat.min len2 len then d.cell (o2+(q-o))else c.cell q):
  Res X P w0 M h ρ w {val:=.c (.int .i64 (Nat.min len2 len:Nat)),sets:=[(id,.live c')],obl:=[]} (Builtin.copy_ #[t,u] ty #[v,vy]):=by
 obtain⟨b,kcap,ty',nn,hb,rfl,⟨cs,tyr,hrw,hsz1,hcs1⟩,hsh,hn,hlk,hcap⟩:=(cW m (hg _ _ hs) (cN hx)).resolve_right fun⟨_,_,hl0,_⟩=>by omega
 obtain⟨b2,kcap2,ty2,nn2,hb2,rfl,⟨cs2,tyr2,hrw2,hsz2,hcs2⟩,hsh2,hn2,hlk2,hcap2⟩:=(cW m (hg _ _ hs2) (cN hy)).resolve_right fun⟨_,_,hl0,_⟩=>by omega
 have hm1:Nat.min len2 len≤len:=Nat.min_le_right _ _
 have hm2:Nat.min len2 len≤len2:=Nat.min_le_left _ _
 generalize hn0:Nat.min len2 len=n at*
 have hl:((cs2.toList.drop o2).take n).length=n:=by
  rw[List.length_take,List.length_drop]
  have:cs2.toList.length=cs2.size:=by simp
  omega
 have hat: ∀j,j<n→((cs2.toList.drop o2).take n)[j]? =some (cs2.getD (o2+j) undef):=fun j hj=>by
  have:o2+j<cs2.size:=by omega
  rw[List.getElem?_take,if_pos hj,List.getElem?_drop]
  simp[Array.getD_eq_getD_getElem?,this]
 have hrun:=run_copy_row (P:=P) w t u ty e' b (o*1) len kcap ⟨b2,o2*1,none⟩ len2 kcap2 cs tyr ((cs2.toList.drop o2).take n) (cD k hd) (by rw[k'.info];simp[k'.size,hsz]) hrw (by rw[hl,hn0])
  (fun j v hv=>by
   have hj:j<n:=by have:=(List.getElem?_eq_some_iff.1 hv).1;omega
   rw[hat j hj]at hv
   injection hv with hv
   subst hv
   have ea:(⟨b2,o2*1,none⟩:Addr).add j=⟨b2,o2+j,none⟩:=by unfold Addr.add;split<;>simp_all
   have:o2+j<cs2.size:=by omega
   rw[ea]
   simp[World.cell?,hrw2,Array.getD_eq_getD_getElem?,this]) (by omega) (fun v hv=>by
   obtain⟨j,hj⟩:=List.getElem?_of_mem hv
   have hj':j<n:=by have:=(List.getElem?_eq_some_iff.1 hj).1;omega
   rw[hat j hj']at hj
   injection hj with hj
   subst hj
   exact(hcs2 (o2+j) (by omega)).one)
 simp only[Nat.mul_one]at hrun⊢
 rw[hl]at hrun
 have hrow':(cs.toList.take o++(cs2.toList.drop o2).take n++cs.toList.drop (o+n)).toArray=(pH cs.toList o ((cs2.toList.drop o2).take n)).toArray:=by
  unfold pH;rw[hl,List.append_assoc]
 rw[hrow']at hrun
 have hcl:cs.toList.length=cs.size:=by simp
 have hfit:o+((cs2.toList.drop o2).take n).length≤cs.toList.length:=by omega
 obtain⟨g1,g2⟩:=m.write hb c' cs (pH cs.toList o ((cs2.toList.drop o2).take n)).toArray tyr hrw (by simp[xY hfit]) (by simp[xY hfit];omega) (fun q hq=>by
  rw[hcs]at hq
  rw[hc' q hq]
  have e:(pH cs.toList o ((cs2.toList.drop o2).take n)).toArray.getD q undef=(pH cs.toList o ((cs2.toList.drop o2).take n)).getD q undef:=by
   simp[Array.getD_eq_getD_getElem?,List.getD_eq_getElem?_getD]
  rw[e,E2 hfit,hl]
  by_cases hq2:o≤q∧q<o+n
  ·rw[if_pos hq2,if_pos hq2,List.getD_eq_getElem?_getD,hat (q-o) (by omega)]
   exact hcs2 (o2+(q-o)) (by omega)
  ·rw[if_neg hq2,if_neg hq2]
   have:=hcs1 q hq
   simpa [Array.getD_eq_getD_getElem?,List.getD_eq_getElem?_getD]using this)
 exact⟨_,_,ρ,hrun,g1,by simpa [cV]using g2,.c _ _ (.int _ _)⟩
include hT hg m in
theorem JJ {t u ty:Nat} {x y:AV} {v vy:Value} (hx:AVR X w ρ x v) (hy:AVR X w ρ y vy) {e:Eff} (he:GX tt get t x y=some e) (ho: ∀b∈e.obl,b=true):Res X P w0 M h ρ w e (Builtin.copy_ #[t,u] ty #[v,vy]):=by
 unfold GX at he
 replace he:=Option.bind_eq_some_iff.1 he
 obtain⟨ti,hti,he⟩:=he
 obtain⟨i,z,d,k⟩:=bR hT hti
 split at he
 ·rename_i e' id o len cap id2 o2 len2 cap2 hd
  replace he:=Option.bind_eq_some_iff.1 he
  obtain⟨te,hte,he⟩:=he
  obtain⟨i',z',d',k'⟩:=bR hT hte
  cases hq:decide (te.size=1)with
  |false=>rw[hq]at he;cases he
  |true=>
  rw[hq,cond_true]at he
  have hsz:=of_decide_eq_true hq
  have key: ∀ {α:Type} {xs ys:List α} {d:α},o+len≤xs.length→o2+len2≤ys.length→(pH xs o ((ys.drop o2).take (Nat.min len2 len))).length=xs.length∧ ∀q,(pH xs o ((ys.drop o2).take (Nat.min len2 len))).getD q d=if o≤q∧q<o+Nat.min len2 len then ys.getD (o2+(q-o)) d else xs.getD q d:=fun {α xs ys d} h3 h4=>by
   have hm1:Nat.min len2 len≤len:=Nat.min_le_right _ _
   have hm2:Nat.min len2 len≤len2:=Nat.min_le_left _ _
   have hl:((ys.drop o2).take (Nat.min len2 len)).length=Nat.min len2 len:=by rw[List.length_take,List.length_drop];omega
   refine⟨xY (by omega),fun q=> ?_⟩
   rw[E2 (by omega),hl]
   by_cases hq2:o≤q∧q<o+Nat.min len2 len
   ·rw[if_pos hq2,if_pos hq2,List.getD_eq_getElem?_getD,List.getElem?_take,if_pos (by omega),List.getElem?_drop,List.getD_eq_getElem?_getD]
   ·rw[if_neg hq2,if_neg hq2]
  split at he
  ·rename_i kk xs kk' ys hs hs2
   split at he
   ·rename_i hkk
    subst hkk
    injection he with he;subst he
    simp only[List.mem_cons,List.not_mem_nil,or_false,forall_eq_or_imp,forall_eq,decide_eq_true_eq]at ho
    obtain⟨h1,h2,h3,h4⟩:=ho
    obtain⟨s1,s2⟩:=key (d:=(0:Int)) h3 h4
    exact v5 hT m hg k k' hd hsz hs hs2 hx hy h1 h2 h3 h4 s1 fun q hq=>by
     show aF.int kk _=_
     rw[s2 q]
     split<;>rfl
   ·cases he
  ·rename_i xs ys hs hs2
   injection he with he;subst he
   simp only[List.mem_cons,List.not_mem_nil,or_false,forall_eq_or_imp,forall_eq,decide_eq_true_eq]at ho
   obtain⟨h1,h2,h3,h4⟩:=ho
   obtain⟨s1,s2⟩:=key (d:=false) h3 h4
   exact v5 hT m hg k k' hd hsz hs hs2 hx hy h1 h2 h3 h4 s1 fun q hq=>by
    show aF.bool _=_
    rw[s2 q]
    split<;>rfl
  ·cases he
 ·cases he
end
end
section
variable {X : Nat → Prop}
def uT (P:Program) (f:FuncId) (args:List AV) (get:Get) (base:Nat) (e:Eff):Prop:=
 (∃fn,P.funcs[f]? =some fn∧fn.body.isSome=true∧(fn.name== "runtime.NumGoroutine")=false)∧
 ∀ {X:Nat→Prop} {w0 w:World} {M:Nat→Prop} {h:List aW} {ρ:Rho},Mem X w0 M h ρ w→(∀id c,get id=.live c→Heap.get h id=.live c)→
  (∀i,i<8→Heap.get h (base+i)=.unborn∧base+i<h.length)→ ∀(vs:List Value),vs.length=args.length→(∀q,q<args.length→AVR X w ρ (args.getD q .any) (vs.getD q undef))→
  Calls P f vs.toArray w fun e' w'=> ∃v ρ',e'=.returned v∧bN w ρ w' ρ'∧Mem X w0 M (cV h e.sets) ρ' w'∧AVR X w' ρ' e.val v
def bJ (P:Program) (ct:CT):Prop:= ∀f args get base e,ct f args get base=some e→(∀b∈e.obl,b=true)→uT P f args get base e
section
variable {P : Program} {tt : Tab} (hT : iV P tt) {ct : CT} (hct : bJ P ct) {w0 w : World} {M : Nat → Prop} {h : List aW} {ρ : Rho} (m : Mem X w0 M h ρ w)
 {get:Get} (hg: ∀id c,get id=.live c→Heap.get h id=.live c) {base:Nat}
theorem bM {o:Oper} {a:Act} {next:Act→World→Prop} {Q:Exit→Act→World→Prop} {s:Sem Value} {e:Eff} (hs:execOp a.eval o=(do let x←s;pure (Next.value x))) (r:Res X P w0 M h ρ w e s)
  (hn: ∀v w' ρ',bN w ρ w' ρ'→Mem X w0 M (cV h e.sets) ρ' w'→AVR X w' ρ' e.val v→next (a.put o.dst v) w'):o.wp P a w next Q:=by
 obtain⟨v,w',ρ',h1,h2,h3,h4⟩:=r
 unfold Oper.wp
 rw[hs]
 simp only[Sem.run_bind,h1,Result.andThen_ok,Sem.run_pure]
 exact hn v w' ρ' h2 h3 h4
theorem CW {o:Oper} {a:Act} {next:Act→World→Prop} {Q:Exit→Act→World→Prop} {s:Sem Unit} {e:Eff} (hs:execOp a.eval o=(do s;pure Next.skip)) (r:VV X P w0 M h ρ w e s)
  (hn: ∀v w' ρ',bN w ρ w' ρ'→Mem X w0 M (cV h e.sets) ρ' w'→AVR X w' ρ' e.val v→next (a.put o.dst v) w'):o.wp P a w next Q:=by
 obtain⟨w',ρ',h1,h2,h3,h4⟩:=r
 unfold Oper.wp
 rw[hs]
 simp only[Sem.run_bind,h1,Result.andThen_ok,Sem.run_pure]
 exact hn undef w' ρ' h2 h3 (by rw[h4];exact .tup [] #[] rfl (fun i hi=>by simp at hi))
theorem lS {w:World} {ρ:Rho} {ev:Operand→AV} {f:Operand→Value} (hev: ∀x,AVR X w ρ (ev x) (f x)): ∀ {l:List Operand} {cs:List aF},hX (l.map ev)=some cs→LR X w ρ cs (l.map f)
 |[],cs,h=>by simp[hX]at h;subst h;exact LR.nil w ρ
 |x::l,cs,h=>by
  simp only[List.map_cons]at h⊢
  cases hx:ev x with
  |c y=>
   rw[hx]at h
   simp only[hX]at h
   obtain⟨r,h1,h2⟩:=Option.map_eq_some_iff.1 h
   subst h2
   have:=hev x;rw[hx]at this
   exact LR.cons (cN this) (lS hev h1)
  |any=>rw[hx]at h;simp[hX]at h
  |agg l=>rw[hx]at h;simp[hX]at h
  |tup l=>rw[hx]at h;simp[hX]at h
theorem gS {α:Type} {a:Array α} {l:List α} (h:a.toList=l):a=l.toArray:=by rw[←h]
include hT hct m hg in
set_option maxHeartbeats 1000000 in
theorem ED {o:Oper} {a:Act} {ev:Operand→AV} (hev: ∀x,AVR X w ρ (ev x) (a.eval x)) (hb: ∀i,i<slots o.op→Heap.get h (base+i)=.unborn∧base+i<h.length)
  {e:Eff} (he:aop tt ct get base ev o.op=some e) (ho: ∀b∈e.obl,b=true) {next:Act→World→Prop} {Q:Exit→Act→World→Prop}
  (hn: ∀v w' ρ',bN w ρ w' ρ'→Mem X w0 M (cV h e.sets) ρ' w'→AVR X w' ρ' e.val v→next (a.put o.dst v) w'):o.wp P a w next Q:=by
 obtain⟨dst,op,type,pos,after,guard⟩:=o
 dsimp only at he hb
 cases op<;>simp only[aop]at he<;>try (cases he;done)
 case move x=>exact bM (s:=pure (a.eval x)) rfl (tE m he (hev x)) hn
 case assign x=>exact bM (s:=pure (a.eval x)) rfl (tE m he (hev x)) hn
 case pick c x y=>exact bM (s:=do pure (if←asBool (a.eval c)then a.eval x else a.eval y)) (by simp[execOp]) (JL m (hev c) (hev x) (hev y) he ho) hn
 case alloc t=>
  obtain⟨b1,b2⟩:=hb 0 (by simp[slots])
  exact bM (s:=Instr.alloc t true (.tuple #[])) rfl (EZ hT m hg b1 b2 he ho) hn
 case box t x=>
  obtain⟨b1,b2⟩:=hb 0 (by simp[slots])
  exact bM (s:=Instr.box t (a.eval x)) rfl (N7 hT m hg b1 b2 (hev x) he ho) hn
 case build t parts=>
  refine bM (s:=Instr.build t (parts.map fun(i,x)=>(i,a.eval x))) rfl (F2 hT m (parts:=parts.toList.map fun(i,x)=>(i,a.eval x)) ?_ ?_ he (by simp)) hn
  ·simp[List.map_map,Function.comp_def]
  ·intro q hq
   simp only[List.length_map]at hq
   simp only[List.getD_eq_getElem?_getD,List.getElem?_map,List.getElem?_eq_getElem hq,Option.map_some,Option.getD_some]
   exact hev _
 case buildSlice t n parts=>
  obtain⟨b1,b2⟩:=hb 0 (by simp[slots])
  refine bM (s:=Instr.buildSlice t n (parts.map fun(i,x)=>(i,a.eval x))) rfl (tD hT m hg b1 b2 (parts:=parts.toList.map fun(i,x)=>(i,a.eval x)) ?_ ?_ he ho (by simp)) hn
  ·simp[List.map_map,Function.comp_def]
  ·intro q hq
   simp only[List.length_map]at hq
   simp only[List.getD_eq_getElem?_getD,List.getElem?_map,List.getElem?_eq_getElem hq,Option.map_some,Option.getD_some]
   exact hev _
 case load t x=>exact bM (s:=Instr.loadAt t (a.eval x)) rfl (JK hT m hg (hev x) he ho) hn
 case store t x y=>exact CW (s:=Instr.storeAt t (a.eval x) (a.eval y)) rfl (F7 hT m hg (hev x) (hev y) he ho) hn
 case nilCheck x=>
  obtain⟨e1,e2⟩:=EQ m hg (hev x) he
  subst e1
  have:execOp a.eval {dst,op:=.nilCheck x,type,pos,after,guard}=(do let x←(pure (a.eval x):Sem Value);pure (Next.value x)):=by
   rcases e2 with⟨ad,e2⟩|⟨f,vs,e2⟩<;>simp only[execOp,e2]<;>rfl
  exact bM this (tE m rfl (hev x)) hn
 case binOp op t x y yt=>exact bM (s:=xA op t x y (a.eval x) (a.eval y)) rfl (F1 hT m (hev x) (hev y) he ho) hn
 case unOp op t x=>exact bM (s:=Op.unary op (a.eval x)) rfl (JM m (hev x) he) hn
 case convert s t x=>exact bM (s:=convert s t (a.eval x)) rfl (zW hT m (hev x) he) hn
 case makeFunc fn first caps=>
  cases fn<;>simp only[aop]at he<;>try (cases he;done)
  rename_i f
  split at he
  ·rename_i hf
   replace he:=Option.bind_eq_some_iff.1 he
   obtain⟨l,hl,he⟩:=he
   injection he with he;subst he
   have hlr:=lS (f:=a.eval) hev hl
   have e1:=gS hf
   subst e1
   refine bM (s:=Instr.makeFunc (.func f) (#[].map a.eval) (caps.map a.eval)) rfl ⟨_,w,ρ,rfl,bN.refl _ _,m,.c _ _ ?_⟩ hn
   have:=CR0.fn (w:=w) (L:=fun b=>bH ρ b∨X b) (ρ:=ρ) f l (caps.map a.eval) (by have:=hlr.1;simpa using this) (fun i hi=>by
    have:=hlr.2 i hi;simpa [Array.getD_eq_getD_getElem?,List.getD_eq_getElem?_getD]using this)
   simpa using this
  ·cases he
 case makeSlice t x y=>
  obtain⟨b1,b2⟩:=hb 0 (by simp[slots])
  exact bM (s:=Instr.makeSlice t (a.eval x) (a.eval y)) rfl (uN hT m b1 b2 (hev x) (hev y) he ho) hn
 case slice t x lo hi mx=>
  refine bM (s:=Instr.sliceAt t (a.eval x) (lo.map a.eval) (hi.map a.eval) (mx.map a.eval)) rfl (F6 hT m hg (hev x) ?_ ?_ ?_ ?_ ?_ ?_ he ho) hn
  ·intro y hy;obtain⟨x',h1,h2⟩:=Option.map_eq_some_iff.1 hy;exact⟨a.eval x',by simp[h1],by rw[←h2];exact hev x'⟩
  ·intro hy;cases lo<;>simp at hy⊢
  ·intro y hy;obtain⟨x',h1,h2⟩:=Option.map_eq_some_iff.1 hy;exact⟨a.eval x',by simp[h1],by rw[←h2];exact hev x'⟩
  ·intro hy;cases hi<;>simp at hy⊢
  ·intro y hy;obtain⟨x',h1,h2⟩:=Option.map_eq_some_iff.1 hy;exact⟨a.eval x',by simp[h1],by rw[←h2];exact hev x'⟩
  ·intro hy;cases mx<;>simp at hy⊢
 case fieldAddr t x f=>exact bM (s:=Instr.fieldAt t (a.eval x) f) rfl (uL hT m hg (hev x) he) hn
 case field t x f=>exact bM (s:=Instr.field t (a.eval x) f) rfl (F4 hT m (hev x) he) hn
 case indexAddr t x i=>exact bM (s:=Instr.indexAt t (a.eval x) (a.eval i)) rfl (uM hT m hg (hev x) (hev i) he ho) hn
 case index t x i=>exact bM (s:=Instr.index t (a.eval x) (a.eval i)) rfl (F5 hT m (hev x) (hev i) he ho) hn
 case extract x i=>exact bM (s:=Instr.extract (a.eval x) i) rfl (zX m (hev x) he) hn
 case call c=>
  obtain⟨callee,args,argTypes⟩:=c
  cases callee with
  |invoke r s=>simp only[aop]at he;cases he
  |builtin b=>
   simp only[aop]at he
   split at he
   ·rename_i x t h1 h2
    have e1:=gS h1;have e2:=gS h2
    subst e1 e2
    exact bM (s:=Builtin.len_ #[t] type #[a.eval x]) (by simp[execOp,resolve,invoke,builtin]) (N8 hT m hg (hev x) he) hn
   ·rename_i s x t u h1 h2
    have e1:=gS h1;have e2:=gS h2
    subst e1 e2
    obtain⟨b1,b2⟩:=hb 0 (by simp[slots])
    split at he
    ·rename_i kx nI hxe
     have hx':=hev x
     rw[hxe]at hx'
     exact bM (s:=Builtin.append_ #[t,u] type #[a.eval s,a.eval x]) (by simp[execOp,resolve,invoke,builtin]) (zV hT m hg b1 b2 (hev s) hx' he ho) hn
    ·exact bM (s:=Builtin.append_ #[t,u] type #[a.eval s,a.eval x]) (by simp[execOp,resolve,invoke,builtin]) (CJ hT m hg b1 b2 (hev s) (hev x) he ho) hn
   ·rename_i x t h1 h2
    have e1:=gS h1;have e2:=gS h2
    subst e1 e2
    exact bM (s:=Builtin.clear_ #[t] type #[a.eval x]) (by simp[execOp,resolve,invoke,builtin]) (F3 hT m hg (hev x) he ho) hn
   ·rename_i x y t u h1 h2
    have e1:=gS h1;have e2:=gS h2
    subst e1 e2
    exact bM (s:=Builtin.copy_ #[t,u] type #[a.eval x,a.eval y]) (by simp[execOp,resolve,invoke,builtin]) (JJ hT m hg (hev x) (hev y) he ho) hn
   ·rename_i l x y h1
    have e1:=gS h1
    subst e1
    exact bM (s:=Builtin.max_ argTypes type #[a.eval x,a.eval y]) (by simp[execOp,resolve,invoke,builtin]) (N9 m (hev x) (hev y) he) hn
   ·rename_i l x y h1
    have e1:=gS h1
    subst e1
    exact bM (s:=Builtin.min_ argTypes type #[a.eval x,a.eval y]) (by simp[execOp,resolve,invoke,builtin]) (NA m (hev x) (hev y) he) hn
   ·cases he
  |value f=>
   simp only[aop]at he
   have hf:=hev f
   split at he
   ·rename_i F caps h1
    rw[h1]at hf
    obtain⟨vs,e1,hlr⟩:=H6 m hf
    obtain⟨⟨fn,f1,f2,f3⟩,hcall⟩:=hct _ _ _ _ _ he ho
    have hcalls:=hcall m hg (fun i hi=>hb i (by simpa [slots]using hi)) (args.toList.map a.eval++vs.toList) (by have:=hlr.1;simp at this;simp[this]) (fun q hq=>by
     simp only[List.length_append,List.length_map]at hq
     by_cases h2:q<args.toList.length
     ·simp only[List.getD_eq_getElem?_getD,List.getElem?_append,List.length_map,h2,if_true,List.getElem?_map,List.getElem?_eq_getElem h2,Option.map_some,Option.getD_some]
      exact hev _
     ·have h3:q-args.toList.length<caps.length:=by omega
      have:=hlr.2 _ h3
      simp only[List.getD_eq_getElem?_getD,List.getElem?_append,List.length_map,h2,if_false,List.getElem?_map]at this⊢
      rw[List.getElem?_eq_getElem h3]at this⊢
      exact .c _ _ this)
    have hb0:fn.body.isNone=false:=by cases hbd:fn.body<;>simp[hbd]at f2⊢
    have hrun:(execOp a.eval {dst,op:=.call {callee:=.value f,args,argTypes},type,pos,after,guard}).run P w=.ok (.enter F (args.toList.map a.eval++vs.toList).toArray) w:=by
     have harr:(args.toList.map a.eval++vs.toList).toArray= #[]++args.map a.eval++vs:=by
      apply Array.ext';simp
     rw[harr]
     have f3': ¬fn.name= "runtime.NumGoroutine" :=by simpa using f3
     have hb0': ¬fn.body=none:=by cases hbd:fn.body<;>simp[hbd]at f2⊢
     simp[execOp,resolve,e1,Deferred.ofValue,invoke,callFunc,program,Sem.run,f1,f3',hb0']
    unfold Oper.wp
    rw[hrun]
    refine hcalls.mono ?_
    rintro e' w' ⟨v,ρ',rfl,g1,g2,g3⟩
    exact hn v w' ρ' g1 g2 g3
   ·cases he
end
end
section
variable {X : Nat → Prop}
structure Rel (X:Nat→Prop) (w0:World) (ρ0:Rho) (s:St) (ρ:Rho) (a:Act) (w:World):Prop where
 size:a.tmps.size=s.tmps.length
 tmps: ∀t,t<s.tmps.length→AVR X w ρ (s.tmps.getD t (.tup [])) (a.tmps.getD t undef)
 mem:Mem X w0 (bH ρ0) s.heap ρ w
 defers:a.defers=[]
 mono:eD w0 (bH ρ0) w (bH ρ)
 ids:cB ρ0 ρ
theorem oN (w:World) (ρ:Rho):AVR X w ρ (.tup []) undef:=.tup [] #[] rfl (fun i hi=>by simp at hi)
theorem mS {w:World} {ρ:Rho} {v:Value} (h:v.oneCell'=true):CR X w ρ (xD v) v:=by
 unfold xD
 split
 ·exact .int _ _
 ·exact .bool _
 ·exact .str _
 ·exact .nilp
 ·exact .nils
 ·exact .nilf
 ·exact .fn _ [] #[] rfl (fun i hi=>by simp at hi)
 ·exact .any _ h
theorem uH {w:World} {ρ:Rho} (v:Value):AVR X w ρ (xQ v) v:=by
 unfold xQ
 split
 ·rename_i cs
  cases h:cs.toList.all Value.oneCell' with
  |false=>exact .any _
  |true=>
   refine AVR.of_lr ⟨by simp,fun i hi=> ?_⟩
   simp only[List.length_map]at hi
   have h1:(cs.toList[i]).oneCell'=true:=List.all_eq_true.1 h _ (List.getElem_mem hi)
   simp only[List.getD_eq_getElem?_getD,List.getElem?_map,List.getElem?_eq_getElem hi,Option.map_some,Option.getD_some]
   exact mS h1
 ·exact .tup [] #[] rfl (fun i hi=>by simp at hi)
 ·exact .any _
 ·rename_i h1 h2 h3
  refine .c _ _ (mS ?_)
  cases v<;>first|rfl|exact absurd rfl (h1 _)|exact absurd rfl (h3 _)
theorem Rel.ev {w0 w:World} {ρ0:Rho} {s:St} {ρ:Rho} {a:Act} (r:Rel X w0 ρ0 s ρ a w) (x:Operand):AVR X w ρ (s.ev x) (a.eval x):=by
 cases x with
 |tmp t=>
  show AVR X w ρ (s.tmps.getD t (.tup [])) (a.tmps.getD t undef)
  by_cases h:t<s.tmps.length
  ·exact r.tmps t h
  ·have h2: ¬t<a.tmps.size:=by rw[r.size];exact h
   have e1:s.tmps.getD t (.tup [])=.tup []:=by simp[List.getD_eq_getElem?_getD,List.getElem?_eq_none (Nat.le_of_not_lt h)]
   have e2:a.tmps.getD t undef=undef:=by simp[Array.getD,h2]
   rw[e1,e2];exact oN w ρ
 |const v=>exact uH v
 |global g=>exact .any _
 |func f=>exact .c _ _ (.fn f [] #[] rfl (fun i hi=>by simp at hi))
theorem Rel.apply {w0 w w':World} {ρ0:Rho} {s:St} {ρ ρ':Rho} {a:Act} (r:Rel X w0 ρ0 s ρ a w) {dst:Option Nat} {e:Eff} {v:Value} (m:bN w ρ w' ρ')
  (hm:Mem X w0 (bH ρ0) (cV s.heap e.sets) ρ' w') (hv:AVR X w' ρ' e.val v):Rel X w0 ρ0 (dG s dst e) ρ' (a.put dst v) w':=by
 cases dst with
 |none=>exact⟨r.size,fun t ht=>(r.tmps t ht).mono m,hm,r.defers,r.mono.trans m.toB,r.ids.trans m.ids⟩
 |some d=>
  refine⟨by simp[dG,qY,Act.put,r.size],fun t ht=> ?_,hm,r.defers,r.mono.trans m.toB,r.ids.trans m.ids⟩
  simp only[dG,qY,List.length_set]at ht
  by_cases e:t=d
  ·subst e
   have h2:t<a.tmps.size:=by rw[r.size];exact ht
   simpa [dG,qY,Act.put,List.getD_eq_getElem?_getD,ht,Array.getD,h2]using hv
  ·have e': ¬d=t:=fun x=>e x.symm
   have:=(r.tmps t ht).mono m
   simpa [dG,qY,Act.put,List.getD_eq_getElem?_getD,List.getElem?_set,e',Array.getD_eq_getD_getElem?,Array.getElem?_setIfInBounds_ne e']using this
theorem EV {h:List aW} {fp:List Nat} {id:Nat} {c:Con} (e:only h fp id=.live c):Heap.get h id=.live c:=by
 unfold only at e
 cases hf:fp.elem id with
 |true=>rw[hf]at e;exact e
 |false=>rw[hf]at e;cases e
section
variable {P : Program} {tt : Tab} (hT : iV P tt) {ct : CT} (hct : bJ P ct) {w0 w : World} {ρ0 : Rho} {ops : Array Oper}
theorem vF {s:St} {ρ:Rho} {a:Act} (r:Rel X w0 ρ0 s ρ a w) {j:Nat} {b:Bool} (h:uG ops s.tmps j=.c (.bool b)):yielded ops a.tmps j=some b:=by
 unfold uG at h
 unfold yielded
 split at h
 ·rename_i d hd
  by_cases hl:d<s.tmps.length
  ·have:=r.tmps d hl
   rw[h]at this
   have e:=g7 this
   have h2:d<a.tmps.size:=by rw[r.size];exact hl
   simp[Array.getD,h2]at e
   simp[hd,h2,e]
  ·simp[List.getD_eq_getElem?_getD,List.getElem?_eq_none (Nat.le_of_not_lt hl)]at h
 ·cases h
theorem EN {s:St} {ρ:Rho} {a:Act} (r:Rel X w0 ρ0 s ρ a w) {j:Nat} (h:uG ops s.tmps j=.tup []):yielded ops a.tmps j=none:=by
 unfold uG at h
 unfold yielded
 split at h
 ·rename_i d hd
  by_cases hl:d<s.tmps.length
  ·have:=r.tmps d hl
   rw[h]at this
   have h2:d<a.tmps.size:=by rw[r.size];exact hl
   have e: ∃vs,a.tmps.getD d undef=.tuple vs:=by
    generalize a.tmps.getD d undef=v at this
    cases this;exact⟨_,rfl⟩
   obtain⟨vs,e⟩:=e
   simp[Array.getD,h2]at e
   simp[hd,h2,e]
  ·have h2: ¬d<a.tmps.size:=by rw[r.size];exact hl
   simp[hd,Array.getElem?_eq_none (Nat.le_of_not_lt h2)]
 ·rename_i hd
  simp[hd]
include hT hct in
theorem tS {Q:Exit→Act→World→Prop} {K:Act→World→Prop} {s:St} {ρ:Rho} {a:Act} (r:Rel X w0 ρ0 s ρ a w) {i:Nat} {o:Oper} (hi:ops[i]? =some o) {base:Nat} {dec:Option Bool}
  {fp:List Nat} {e:Eff} (hs:iC tt ct ops s o base dec=some (fp,e)) (ho: ∀b∈e.obl,b=true) (hb: ∀k,k<slots o.op→Heap.get s.heap (base+k)=.unborn∧base+k<s.heap.length)
  (hK: ∀a' w' ρ',Rel X w0 ρ0 (dG s o.dst e) ρ' a' w'→K a' w'):wpOp P ops Q i K a w:=by
 unfold iC at hs
 dsimp only at hs
 unfold wpOp
 simp only[hi]
 have run: ∀e,aop tt ct (only s.heap (fpO o.op s.heap ((cO o).map s.ev))) base s.ev o.op=some e→(∀b∈e.obl,b=true)→(∀a' w' ρ',Rel X w0 ρ0 (dG s o.dst e) ρ' a' w'→K a' w')→o.wp P a w K Q:=by
  intro e he ho hK
  exact ED hT hct r.mem (fun id c h=>EV h) r.ev hb he ho (fun v w' ρ' g1 g2 g3=>hK _ _ ρ' (r.apply g1 g2 g3))
 have skip: ∀e:Eff,e.val=.tup []→e.sets=[]→(∀a' w' ρ',Rel X w0 ρ0 (dG s o.dst e) ρ' a' w'→K a' w')→K (a.put o.dst undef) w:=by
  intro e h1 h2 hK
  exact hK _ _ ρ (r.apply (bN.refl _ _) (by rw[h2];exact r.mem) (by rw[h1];exact oN w ρ))
 split at hs
 ·rename_i hg
  obtain⟨e',h1,h2⟩:=Option.map_eq_some_iff.1 hs
  injection h2 with h2 h3;subst h3
  have hw:Region.wanted o (yielded ops a.tmps)=true:=by simp[Region.wanted,hg]
  rw[if_pos hw]
  exact .inl (run _ h1 ho hK)
 ·rename_i j want hg
  split at hs
  ·rename_i b hgv
   obtain⟨e',h1,h2⟩:=Option.map_eq_some_iff.1 hs
   injection h2 with h2 h3;subst h3
   have hb':(bif want then b else !b)=true:=ho _ (by simp)
   have hw:Region.wanted o (yielded ops a.tmps)=true:=by
    simp only[Region.wanted,hg,vF r hgv]
    cases want<;>simp at hb'⊢ <;>exact hb'
   rw[if_pos hw]
   exact .inl (run e' h1 (fun b hb=>ho b (by simp[hb])) hK)
  ·cases hs
 ·rename_i j want hg
  split at hs
  ·rename_i b hgv
   injection hs with hs;injection hs with h1 h2;subst h2
   have hb':(bif want then !b else b)=true:=ho _ (by simp)
   have hw: ¬Region.wanted o (yielded ops a.tmps)=true:=by
    simp only[Region.wanted,hg,vF r hgv]
    cases want<;>cases b<;>simp at hb'⊢
   rw[if_neg hw]
   exact skip _ rfl rfl hK
  ·rename_i hgv
   injection hs with hs;injection hs with h1 h2;subst h2
   have hw: ¬Region.wanted o (yielded ops a.tmps)=true:=by
    simp only[Region.wanted,hg,EN r hgv]
    cases want<;>simp
   rw[if_neg hw]
   exact skip _ rfl rfl hK
  ·cases hs
 ·cases hs
inductive lY (tt:Tab) (ct:CT) (ops:Array Oper):List Rec→St→St→Prop
 |nil (s:St):lY tt ct ops [] s s
 |cons (r:Rec) (rs:List Rec) (s s':St) (hs:iC tt ct ops s r.o r.base r.dec=some (r.fp,r.eff)) (ho: ∀b∈r.eff.obl,b=true)
   (hb: ∀k,k<slots r.o.op→Heap.get s.heap (r.base+k)=.unborn∧r.base+k<s.heap.length) (h:lY tt ct ops rs (dG s r.o.dst r.eff) s'):lY tt ct ops (r::rs) s s'
include hT hct in
theorem tU {Q:Exit→Act→World→Prop} {s':St} (hQ: ∀a w ρ,Rel X w0 ρ0 s' ρ a w→Q .normal a w):
  ∀ {rs:List Rec} {s:St} {ρ:Rho} {a:Act} {w:World},Rel X w0 ρ0 s ρ a w→lY tt ct ops rs s s'→(∀r∈rs,ops[r.i]? =some r.o)→wpOps P ops Q (rs.map (·.i)) a w
 |[],s,ρ,a,w,r,h,_=>by cases h;exact hQ _ _ _ r
 |x::rs,s,ρ,a,w,r,h,hi=>by
  cases h with
  |cons _ _ _ _ hs ho hb h=>
   rw[List.map_cons,wpOps_cons]
   exact tS hT hct r (hi x List.mem_cons_self) hs ho hb fun a' w' ρ' r'=>tU hQ r' h fun y hy=>hi y (List.mem_cons_of_mem _ hy)
end
end
section
variable {X : Nat → Prop}
theorem HM {s s':St} {l:List Tmp} (h: ∀t∈l,s.tmps.getD t (.tup [])=s'.tmps.getD t (.tup [])) {x:Operand} (hx: ∀t,x=.tmp t→t∈l):s.ev x=s'.ev x:=by
 cases x with
 |tmp t=>exact h t (hx t rfl)
 |const v=>rfl
 |global g=>rfl
 |func f=>rfl
set_option maxHeartbeats 1000000 in
theorem EC (tt:Tab) (ct:CT) (get:Get) (base:Nat) {ev ev':Operand→AV} (op:Op) (h: ∀x∈op.operands,ev x=ev' x):aop tt ct get base ev op=aop tt ct get base ev' op:=by
 have pairs: ∀ps:Array (Nat×Operand),(∀x∈(ps.toList.map (·.2)).toArray,ev x=ev' x)→(ps.toList.map fun(i,x)=>(i,ev x))=ps.toList.map fun(i,x)=>(i,ev' x):=fun ps hp=>
  List.map_congr_left fun p hm=>by
   obtain⟨i,x⟩:=p
   simp only[hp x (by simp only[List.mem_toArray];exact List.mem_map.2 ⟨(i,x),hm,rfl⟩)]
 have opt: ∀(o:Option Operand),(∀x∈o.toArray,ev x=ev' x)→o.map ev=o.map ev':=fun o ho=>by
  cases o with
  |none=>rfl
  |some x=>simp[ho x (by simp)]
 have arr: ∀(l:Array Operand),(∀x∈l,ev x=ev' x)→l.toList.map ev=l.toList.map ev':=fun l hl=>List.map_congr_left fun x hx=>hl x (by simpa using hx)
 cases op<;>simp only[Op.operands]at h<;>simp only[aop]
 case build t ps=>rw[pairs ps h]
 case buildSlice t n ps=>rw[pairs ps h]
 case makeFunc fn first caps=>
  cases fn<;>simp only[aop]
  rw[arr caps fun x hx=>h x (by simp[hx])]
 case slice t x lo hi mx=>
  rw[h x (by simp),opt lo fun x hx=>h x (by simp at hx⊢;simp[hx]),opt hi fun x hx=>h x (by simp at hx⊢;simp[hx]),opt mx fun x hx=>h x (by simp at hx⊢;simp[hx])]
 case call c=>
  obtain⟨callee,args,argTypes⟩:=c
  simp only[Call.operands]at h
  cases callee with
  |invoke r s=>rfl
  |value f=>
   simp only[aop]
   rw[h f (by simp),arr args fun x hx=>h x (by simp[hx])]
  |builtin b=>
   simp only[aop]
   have ha: ∀x∈args.toList,ev x=ev' x:=fun x hx=>h x (by simpa using hx)
   split
   ·rename_i x t h1 h2;rw[ha x (by simp[h1])]
   ·rename_i s x t u h1 h2;rw[ha s (by simp[h1]),ha x (by simp[h1])]
   ·rename_i x t h1 h2;rw[ha x (by simp[h1])]
   ·rename_i x y t u h1 h2;rw[ha x (by simp[h1]),ha y (by simp[h1])]
   ·rename_i l x y h1;rw[ha x (by simp[h1]),ha y (by simp[h1])]
   ·rename_i l x y h1;rw[ha x (by simp[h1]),ha y (by simp[h1])]
   ·rfl
 all_goals first|rfl|(simp at h;simp[h])
theorem vP {tmps:List AV} {dst:Option Nat} {v:AV} {t:Nat} (h:dst≠some t):(qY tmps dst v).getD t (.tup [])=tmps.getD t (.tup []):=by
 cases dst with
 |none=>rfl
 |some d=>
  have: ¬d=t:=fun e=>h (by rw[e])
  simp[qY,List.getD_eq_getElem?_getD,List.getElem?_set,this]
theorem eJ {sets:List (Nat×aW)} {h:List aW} {id:Nat} (hn:id∉sets.map (·.1)):Heap.get (cV h sets) id=Heap.get h id:=
 dL sets h id fun s hs=>hn (List.mem_map.2 ⟨(id,s),hs,rfl⟩)
theorem mZ {α β:Type} {f g:α→List β}: ∀ {l:List α},(∀x∈l,f x=g x)→l.flatMap f=l.flatMap g
 |[],_=>rfl
 |x::l,h=>by
  simp only[List.flatMap_cons]
  rw[h x List.mem_cons_self,mZ fun y hy=>h y (List.mem_cons_of_mem _ hy)]
theorem nX {tt:Tab} {ct:CT} {ops:Array Oper} {s s':St} {o:Oper} {base:Nat} {dec:Option Bool} {fp:List Nat} {e:Eff} (hs:iC tt ct ops s o base dec=some (fp,e))
  (ht: ∀t∈o.looksAt ops,s'.tmps.getD t (.tup [])=s.tmps.getD t (.tup [])) (hh: ∀id∈fp,Heap.get s'.heap id=Heap.get s.heap id):iC tt ct ops s' o base dec=some (fp,e):=by
 have hfp:fp=fpO o.op s.heap ((cO o).map s.ev):=by
  unfold iC at hs
  dsimp only at hs
  split at hs
  ·obtain⟨e',h1,h2⟩:=Option.map_eq_some_iff.1 hs;injection h2 with h2 h3;exact h2.symm
  ·split at hs
   ·obtain⟨e',h1,h2⟩:=Option.map_eq_some_iff.1 hs;injection h2 with h2 h3;exact h2.symm
   ·cases hs
  ·split at hs
   ·injection hs with hs;injection hs with h1 h2;exact h1.symm
   ·injection hs with hs;injection hs with h1 h2;exact h1.symm
   ·cases hs
  ·cases hs
 have hev: ∀x∈cO o,s'.ev x=s.ev x:=fun x hx=>HM ht fun t e=>by
  subst e
  simp only[Oper.looksAt,List.mem_append,List.mem_filterMap]
  exact .inl ⟨.tmp t,hx,rfl⟩
 have hmap:(cO o).map s'.ev=(cO o).map s.ev:=List.map_congr_left hev
 have hfp':fpO o.op s'.heap ((cO o).map s'.ev)=fp:=by
  rw[hmap,hfp]
  rw[hfp]at hh
  generalize o.op=op at hh
  have gen:(∀id∈HP (sG op) s.heap ((cO o).map s.ev),Heap.get s'.heap id=Heap.get s.heap id)→HP (sG op) s'.heap ((cO o).map s.ev)=HP (sG op) s.heap ((cO o).map s.ev):=fun hh=>by
   unfold HP at hh⊢
   dsimp only at hh⊢
   congr 1
   cases hd:sG op with
   |false=>rfl
   |true=>
   refine mZ fun id hid=> ?_
   rw[hh id (List.mem_append_left _ hid)]
  cases op<;>first|rfl|exact gen hh
 have honly:only s'.heap fp=only s.heap fp:=by
  funext id
  unfold only
  cases hf:fp.elem id with
  |false=>rfl
  |true=>exact hh id (by simpa using hf)
 have haop:aop tt ct (only s'.heap fp) base s'.ev o.op=aop tt ct (only s.heap fp) base s.ev o.op:=by
  rw[honly]
  exact EC tt ct _ base o.op fun x hx=>hev x (by simpa [cO]using hx)
 have hg: ∀j want,o.guard=some (j,want)→uG ops s'.tmps j=uG ops s.tmps j:=fun j want hgd=>by
  unfold uG
  split
  ·rename_i d hd
   refine ht d ?_
   simp only[Oper.looksAt,List.mem_append,hgd]
   exact .inr (by rw[hd];simp)
  ·rfl
 unfold iC at hs⊢
 dsimp only at hs⊢
 rw[hfp',haop]
 rw[←hfp]at hs
 cases hgd:o.guard with
 |none=>rw[hgd]at hs;cases dec<;>exact hs
 |some jw=>
  obtain⟨j,want⟩:=jw
  rw[hgd]at hs
  have e1:=hg j want hgd
  cases dec with
  |none=>exact hs
  |some b=>cases b<;>(dsimp only at hs⊢;rw[e1];exact hs)
theorem lR: ∀(a:List (Nat×aW)) (h:List aW) (i:Nat) (s:aW),i∉a.map (·.1)→cV (h.set i s) a=(cV h a).set i s
 |[],h,i,s,_=>rfl
 |(j,t)::a,h,i,s,hn=>by
  simp only[List.map_cons,List.mem_cons,not_or]at hn
  simp only[cV]
  rw[List.set_comm _ _ hn.1,lR a _ i s hn.2]
theorem vX: ∀(a b:List (Nat×aW)) (h:List aW),(∀x∈a.map (·.1),x∉b.map (·.1))→cV (cV h a) b=cV (cV h b) a
 |[],b,h,_=>rfl
 |(i,s)::a,b,h,hn=>by
  simp only[cV]
  rw[vX a b (h.set i s) fun x hx=>hn x (by simp only[List.map_cons];exact List.mem_cons_of_mem _ hx),lR b h i s (hn i (by simp))]
theorem EW {tmps:List AV} {x y:Option Nat} (v u:AV) (h: ∀d,x=some d→y≠some d):qY (qY tmps x v) y u=qY (qY tmps y u) x v:=by
 cases x with
 |none=>rfl
 |some d=>
  cases y with
  |none=>rfl
  |some e=>
   have hne:d≠e:=fun he=>h d rfl (by rw[he])
   simp only[qY]
   rw[List.set_comm _ _ hne]
theorem kC {a b:List Nat} (h:DT a b=false): ∀x∈a,x∉b:=by
 intro x hx hb
 have:=List.any_eq_false.1 h x hx
 exact this (by simpa using hb)
theorem CA {ops:Array Oper} {x y:Rec} (h:q8 ops x y=true):
  x.o.apart ops y.o=true∧(∀i∈x.writes,i∉y.fp)∧(∀i∈y.writes,i∉x.fp)∧ ∀i∈x.writes,i∉y.writes:=by
 simp only[q8,Bool.and_eq_true,rpS,Bool.not_eq_true']at h
 obtain⟨⟨⟨h1,h2⟩,h3⟩,h4⟩:=h
 exact⟨h1,kC h2,kC h3,kC h4⟩
theorem mG: ∀ {n b i:Nat},i<n→b+i∈cL n b
 |0,b,i,h=>absurd h (by omega)
 |n+1,b,0,_=>by simp[cL]
 |n+1,b,i+1,h=>by
  have:=mG (n:=n) (b:=b+1) (i:=i) (by omega)
  rw[show b+1+i=b+(i+1)from by omega]at this
  exact List.mem_cons_of_mem _ this
section
variable {tt : Tab} {ct : CT} {ops : Array Oper}
theorem lY.swap {x y:Rec} {rs:List Rec} {s s':St} (hi:q8 ops x y=true) (h:lY tt ct ops (x::y::rs) s s'):lY tt ct ops (y::x::rs) s s':=by
 obtain⟨hap,h1,h2,h3⟩:=CA hi
 obtain⟨a1,a2,a3⟩:=Oper.apart_spec hap
 cases h with
 |cons _ _ _ _ hsx hox hbx h=>
 cases h with
 |cons _ _ _ _ hsy hoy hby h=>
 have wx: ∀i∈x.eff.sets.map (·.1),i∈x.writes:=fun i hi=>List.mem_append_left _ hi
 have wy: ∀i∈y.eff.sets.map (·.1),i∈y.writes:=fun i hi=>List.mem_append_left _ hi
 have bx: ∀k,k<slots x.o.op→x.base+k∈x.writes:=fun k hk=>List.mem_append_right _ (mG hk)
 have b_y: ∀k,k<slots y.o.op→y.base+k∈y.writes:=fun k hk=>List.mem_append_right _ (mG hk)
 have hy0:iC tt ct ops s y.o y.base y.dec=some (y.fp,y.eff):=by
  refine nX hsy (fun t ht=> ?_) (fun id hid=> ?_)
  ·exact(vP (fun e=>a1 t e ht)).symm
  ·exact(eJ (fun hm=>h1 id (wx id hm) hid)).symm
 have hx1:iC tt ct ops (dG s y.o.dst y.eff) x.o x.base x.dec=some (x.fp,x.eff):=by
  refine nX hsx (fun t ht=> ?_) (fun id hid=> ?_)
  ·exact vP (fun e=>a3 t e ht)
  ·exact eJ (fun hm=>h2 id (wy id hm) hid)
 refine .cons y _ s s' hy0 hoy (fun k hk=> ?_) (.cons x rs _ s' hx1 hox (fun k hk=> ?_) ?_)
 ·obtain⟨c1,c2⟩:=hby k hk
  refine⟨?_,by simpa [dG,eK]using c2⟩
  rw[←c1]
  exact(eJ (fun hm=>h3 _ (wx _ hm) (b_y k hk))).symm
 ·obtain⟨c1,c2⟩:=hbx k hk
  refine⟨?_,by simpa [dG,eK]using c2⟩
  rw[←c1]
  exact eJ (fun hm=>h3 _ (bx k hk) (wy _ hm))
 ·have e:dG (dG s y.o.dst y.eff) x.o.dst x.eff=dG (dG s x.o.dst x.eff) y.o.dst y.eff:=by
   simp only[dG]
   rw[EW _ _ (fun d hd e=>a2 d e hd),vX _ _ _ fun i hi hj=>h3 i (wx i hj) (wy i hi)]
  rw[e];exact h
theorem lY.front {r:Rec}: ∀ {l1 l2:List Rec} {s s':St},(∀x∈l1,q8 ops x r=true)→lY tt ct ops (l1++r::l2) s s'→lY tt ct ops (r::(l1++l2)) s s'
 |[],l2,s,s',_,h=>h
 |x::l1,l2,s,s',hi,h=>by
  cases h with
  |cons _ _ _ _ hs ho hb h=>
   exact lY.swap (hi x List.mem_cons_self) (.cons x _ s s' hs ho hb (lY.front (fun y hy=>hi y (List.mem_cons_of_mem _ hy)) h))
end
theorem sU (ms:List Nat) (x:Nat): ∀(l:List Edge) (s:Nat),(l.foldl (fun s e=>bif Region.binds .any e then s|||(2^e.on|||ms.getD e.on 0)else s) s).testBit x=true→
  s.testBit x=true∨ ∃e∈l,Region.binds .any e=true∧(x=e.on∨(ms.getD e.on 0).testBit x=true)
 |[],s,h=> .inl h
 |e::l,s,h=>by
  simp only[List.foldl_cons]at h
  rcases sU ms x l _ h with h|⟨e',h1,h2,h3⟩
  ·cases hb:Region.binds .any e with
   |false=>rw[hb]at h;exact .inl h
   |true=>
    rw[hb]at h
    simp only[cond_true,Nat.testBit_or,Bool.or_eq_true,Nat.testBit_two_pow,decide_eq_true_eq]at h
    rcases h with h|h|h
    ·exact .inl h
    ·exact .inr ⟨e,List.mem_cons_self,hb,.inl h.symm⟩
    ·exact .inr ⟨e,List.mem_cons_self,hb,.inr h⟩
  ·exact .inr ⟨e',List.mem_cons_of_mem _ h1,h2,h3⟩
theorem qB (ms:List Nat): ∀ {l:List Oper} {i:Nat},sV ms l i=true→ ∀(k:Nat) (o:Oper),l[k]? =some o→
  (∀x,(ms.getD (i+k) 0).testBit x=true→ ∃e∈o.after.toList,Region.binds .any e=true∧(x=e.on∨(ms.getD e.on 0).testBit x=true))∧ ∀e∈o.after.toList,Region.binds .any e=true→e.on<i+k
 |[],i,_,k,o,h=>by simp at h
 |x::l,i,hb,k,o,h=>by
  simp only[sV,Bool.and_eq_true,rpS,beq_iff_eq,List.all_eq_true,Bool.or_eq_true,Bool.not_eq_true']at hb
  obtain⟨⟨h1,h2⟩,h3⟩:=hb
  cases k with
  |zero=>
   simp at h;subst h
   refine⟨fun y hy=> ?_,fun e he hbd=> ?_⟩
   ·rw[Nat.add_zero,h1]at hy
    rcases sU ms y _ _ hy with h|h
    ·simp at h
    ·exact h
   ·rcases h2 e he with h|h
    ·rw[hbd]at h;cases h
    ·simpa [Nat.blt_eq]using h
  |succ k=>
   have:=qB ms h3 k o (by simpa using h)
   rwa[show i+1+k=i+(k+1)from by omega]at this
theorem lL {ops:Array Oper} {ms:List Nat}: ∀ {rs:List Rec},nD ops ms rs=true→rs.Pairwise fun x y=>(ms.getD y.i 0).testBit x.i=true∨q8 ops x y=true
 |[],_=> .nil
 |x::r,h=>by
  simp only[nD,Bool.and_eq_true,rpS,List.all_eq_true,Bool.or_eq_true]at h
  exact .cons (fun y hy=>h.1 y hy) (lL h.2)
end
section
variable {X : Nat → Prop}
theorem mE {md:Region.Mode} {ops:Array Oper} {listed:Array Bool} {i:Nat}:i∈Region.ready md ops listed↔listed.getD i true=false∧ ∃o,ops[i]? =some o∧ ∀e∈o.after,Region.binds md e=true→listed.getD e.on false=true:=by
 unfold Region.ready
 simp only[List.mem_filter,List.mem_range,Bool.and_eq_true,rpS,Bool.not_eq_true']
 constructor
 ·rintro⟨h1,h2,h3⟩
  refine⟨h2,ops[i],by simp[h1],fun e he hb=> ?_⟩
  simp[h1]at h3
  obtain⟨j,hj,rfl⟩:=Array.getElem_of_mem he
  have:=h3 j hj
  rcases this with h|h
  ·rw[hb]at h;cases h
  ·simpa using h
 ·rintro⟨h1,o,h2,h3⟩
  have hlt:i<ops.size:=(Array.getElem?_eq_some_iff.1 h2).1
  refine⟨hlt,h1, ?_⟩
  simp only[h2,Option.map_some,Option.getD_some,Array.all_eq_true]
  intro j hj
  cases hb:Region.binds md o.after[j]with
  |false=>rfl
  |true=>simpa using h3 _ (Array.getElem_mem hj) hb
theorem oU {listed:Array Bool} {i j:Nat} (h:i<listed.size) (d:Bool):(listed.setIfInBounds i true).getD j d=if j=i then true else listed.getD j d:=by
 by_cases e:j=i
 ·subst e;simp[Array.getD,h]
 ·have: ¬i=j:=fun x=>e x.symm
  simp[Array.getD_eq_getD_getElem?,Array.getElem?_setIfInBounds_ne this,e]
theorem sM {listed:Array Bool} {i:Nat} (h:i<listed.size) (d d':Bool):listed.getD i d=listed.getD i d':=by
 simp[Array.getD,h]
section
variable {P : Program} {tt : Tab} (hT : iV P tt) {ct : CT} (hct : bJ P ct) {w0 : World} {ρ0 : Rho} {ops : Array Oper}
include hT hct in
theorem EB {Q:Exit→Act→World→Prop} {s':St} (hQ: ∀a w ρ,Rel X w0 ρ0 s' ρ a w→Q .normal a w) {ms:List Nat} (hms:sV ms ops.toList 0=true):
  ∀ {fuel:Nat} {rs:List Rec} {s:St} {ρ:Rho} {a:Act} {w:World} {listed:Array Bool},rs.length=fuel→Rel X w0 ρ0 s ρ a w→lY tt ct ops rs s s'→
  (∀r∈rs,ops[r.i]? =some r.o∧listed.getD r.i true=false)→(∀j,j<ops.size→listed.getD j true=false→ ∃r∈rs,r.i=j)→
  (∀j,j<ops.size→listed.getD j true=true→ ∀x,(ms.getD j 0).testBit x=true→listed.getD x true=true)→
  rs.Pairwise (fun x y=>x.i<y.i)→rs.Pairwise (fun x y=>(ms.getD y.i 0).testBit x.i=true∨q8 ops x y=true)→listed.size=ops.size→
  wpAny P .any ops Q fuel listed a w:=by
 have spec: ∀i o,ops[i]? =some o→(∀x,(ms.getD i 0).testBit x=true→ ∃e∈o.after.toList,Region.binds .any e=true∧(x=e.on∨(ms.getD e.on 0).testBit x=true))∧
   ∀e∈o.after.toList,Region.binds .any e=true→e.on<i:=by
  intro i o h
  have:=qB ms hms i o (by simpa using h)
  rwa[Nat.zero_add]at this
 intro fuel
 induction fuel with
 |zero=>
  intro rs s ρ a w listed hlen r hr hi hl hc hs hp hsz
  have:rs=[]:=List.eq_nil_of_length_eq_zero hlen
  subst this
  cases hr
  refine⟨?_,hQ _ _ _ r⟩
  apply List.eq_nil_iff_forall_not_mem.2
  intro j hj
  obtain⟨h1,o,h2,_⟩:=mE.1 hj
  obtain⟨r,hr,_⟩:=hl j (Array.getElem?_eq_some_iff.1 h2).1 h1
  cases hr
 |succ fuel ih=>
  intro rs s ρ a w listed hlen r hr hi hl hc hs hp hsz
  refine⟨fun hnil=> ?_,fun i hiR=> ?_⟩
  ·
   cases rs with
   |nil=>simp at hlen
   |cons x rs=>
    exfalso
    obtain⟨hx1,hx2⟩:=hi x List.mem_cons_self
    have:x.i∈Region.ready .any ops listed:=by
     refine mE.2 ⟨hx2,x.o,hx1,fun e he hb=> ?_⟩
     have hlt:=(spec x.i x.o hx1).2 e (by simpa using he) hb
     have hxs:x.i<ops.size:=(Array.getElem?_eq_some_iff.1 hx1).1
     cases hg:listed.getD e.on true with
     |true=>rw[sM (by omega) false true];exact hg
     |false=>
      obtain⟨y,hy,he'⟩:=hl e.on (by omega) hg
      rcases List.mem_cons.1 hy with h|h
      ·subst h;omega
      ·have:=(List.pairwise_cons.1 hs).1 y h;omega
    rw[hnil]at this;cases this
  ·obtain⟨h1,o,h2,h3⟩:=mE.1 hiR
   have hisz:i<ops.size:=(Array.getElem?_eq_some_iff.1 h2).1
   obtain⟨y,hy,hyi⟩:=hl i hisz h1
   subst hyi
   obtain⟨l1,l2,hsplit⟩:=List.append_of_mem hy
   subst hsplit
   have ho:o=y.o:=by have:=(hi y hy).1;rw[h2]at this;injection this
   subst ho
   have closed: ∀x,(ms.getD y.i 0).testBit x=true→listed.getD x true=true:=by
    intro x hx
    obtain⟨e,he,hb,hxe⟩:=(spec _ _ h2).1 x hx
    have hle:=h3 e (by simpa using he) hb
    have heon:e.on<ops.size:=by have:=(spec _ _ h2).2 e he hb;omega
    rw[sM (by omega) false true]at hle
    rcases hxe with rfl|hxe
    ·exact hle
    ·exact hc e.on heon hle x hxe
   have hind: ∀x∈l1,q8 ops x y=true:=by
    intro x hx
    have:=(List.pairwise_append.1 hp).2.2 x hx y List.mem_cons_self
    rcases this with h|h
    ·have h4:=closed _ h
     have h5:=(hi x (List.mem_append_left _ hx)).2
     rw[h4]at h5;cases h5
    ·exact h
   have hfront:=lY.front hind hr
   cases hfront with
   |cons _ _ _ _ hs1 ho1 hb1 hrest=>
    refine tS hT hct r h2 hs1 ho1 hb1 fun a' w' ρ' r'=> ?_
    have hne: ∀x∈l1++l2,x.i≠y.i:=by
     intro x hx
     have hp1:=List.pairwise_append.1 hs
     rcases List.mem_append.1 hx with h|h
     ·have:=hp1.2.2 x h y List.mem_cons_self;omega
     ·have:=(List.pairwise_cons.1 hp1.2.1).1 x h;omega
    have hsub:(l1++l2).Sublist (l1++y::l2):=List.Sublist.append (List.Sublist.refl _) (List.sublist_cons_self _ _)
    refine ih (rs:=l1++l2) (by simp at hlen⊢;omega) r' hrest (fun x hx=> ?_) (fun j hj hjl=> ?_) (fun j hj hjl x hx=> ?_) (hs.sublist hsub) (hp.sublist hsub) (by simpa using hsz)
    ·have hm:x∈l1++y::l2:=hsub.subset hx
     refine⟨(hi x hm).1, ?_⟩
     rw[oU (by omega),if_neg (hne x hx)];exact(hi x hm).2
    ·rw[oU (by omega)]at hjl
     split at hjl
     ·cases hjl
     ·rename_i hji
      obtain⟨z,hz,hzi⟩:=hl j hj hjl
      refine⟨z, ?_,hzi⟩
      rcases List.mem_append.1 hz with h|h
      ·exact List.mem_append_left _ h
      ·rcases List.mem_cons.1 h with h|h
       ·subst h;exact absurd hzi.symm hji
       ·exact List.mem_append_right _ h
    ·rw[oU (by omega)]at hjl⊢
     split
     ·rfl
     ·split at hjl
      ·rename_i hjy;subst hjy;exact closed x hx
      ·exact hc j hj hjl x hx
theorem tL: ∀ {l:List Oper} {i base:Nat} {s s':St} {kn:yH} {p p':i6} {rs:List Rec} {ob:List Bool},pC tt ct ops l i base s kn p=some (rs,s',p',ob)→
  (∀b∈ob,b=true)→(∀k,base≤k→k<base+qM l→Heap.get s.heap k=.unborn)→base+qM l≤s.heap.length→
  lY tt ct ops rs s s'∧rs.length=l.length∧ ∀k r,rs[k]? =some r→r.i=i+k∧l[k]? =some r.o
 |[],i,base,s,s',kn,p,p',rs,ob,h,ho,hf,hl=>by
  simp only[pC,Option.some.injEq,Prod.mk.injEq]at h
  obtain⟨rfl,rfl,rfl,rfl⟩:=h
  exact⟨.nil _,rfl,fun k r hk=>by simp at hk⟩
 |o::l,i,base,s,s',kn,p,p',rs,ob,h,ho,hf,hl=>by
  simp only[pC]at h
  split at h
  ·cases h
  ·rename_i dec kn' p1 hdec
   split at h
   ·cases h
   ·rename_i fp e hst
    cases hset:(e.sets.all fun x=>Nat.blt x.1 (base+slots o.op))with
    |false=>rw[hset]at h;cases h
    |true=>
    rw[hset]at h
    simp only[Bool.not_true,cond_false]at h
    split at h
    ·cases h
    ·rename_i rs' s2 p2 b hrest
     simp only[Option.some.injEq,Prod.mk.injEq]at h
     obtain⟨rfl,rfl,rfl,rfl⟩:=h
     simp only[qM]at hf hl
     have hlt: ∀x∈e.sets,x.1<base+slots o.op:=fun x hx=>by
      have:=List.all_eq_true.1 hset x hx
      simpa [Nat.blt_eq]using this
     obtain⟨g1,g2,g3⟩:=tL hrest (fun b hb=>ho b (List.mem_append_right _ hb)) (fun k hk1 hk2=>by
      simp only[dG]
      rw[eJ (fun hm=>by
       obtain⟨x,hx,rfl⟩:=List.mem_map.1 hm
       have:=hlt x hx;omega)]
      exact hf k (by omega) (by omega)) (by simp only[dG,eK];omega)
     refine⟨.cons _ _ _ _ hst (fun b hb=>ho b (List.mem_append_left _ hb)) (fun k hk=>by dsimp only at hk⊢;exact⟨hf _ (by omega) (by omega),by omega⟩) g1,by simp[g2],fun k r hk=> ?_⟩
     cases k with
     |zero=>simp at hk;subst hk;exact⟨rfl,by simp⟩
     |succ k=>
      obtain⟨a1,a2⟩:=g3 k r (by simpa using hk)
      exact⟨by omega,by simpa using a2⟩
def tV:Ex→Exit
 |.normal=> .normal
 |.exit id=> .exit id
 |.ret=> .ret
def s0 (X:Nat→Prop) (w0:World) (ρ0:Rho) (Q:Ex→St→Prop):Exit→Act→World→Prop:=fun e a w=> ∃x s ρ,e=tV x∧Q x s∧Rel X w0 ρ0 s ρ a w
def aS (P:Program) (m:Nat) (c:Code) (s:St) (Q:Ex→St→Prop):Prop:=
 ∀ ⦃X:Nat→Prop⦄ ⦃w0:World⦄ ⦃ρ0 ρ:Rho⦄ ⦃a:Act⦄ ⦃w:World⦄,(∀k,m≤k→ρ0 k=.unborn)→Rel X w0 ρ0 s ρ a w→c.wp P (s0 X w0 ρ0 Q) a w
theorem s0.mono {w0:World} {ρ0:Rho} {Q Q':Ex→St→Prop} (h: ∀e s,Q e s→Q' e s): ∀e a w,s0 X w0 ρ0 Q e a w→s0 X w0 ρ0 Q' e a w:=
 fun e a w ⟨x,s,ρ,h1,h2,h3⟩=>⟨x,s,ρ,h1,h _ _ h2,h3⟩
theorem aS.mono {m:Nat} {c:Code} {s:St} {Q Q':Ex→St→Prop} (g:aS P m c s Q) (h: ∀e s,Q e s→Q' e s):aS P m c s Q':=
 fun _ _ _ _ _ _ h0 r=>wp_mono (g h0 r) (s0.mono h)
def cT (m:Nat) (s s':St):Prop:= ∀ ⦃X:Nat→Prop⦄ ⦃w0:World⦄ ⦃ρ0 ρ:Rho⦄ ⦃a:Act⦄ ⦃w:World⦄,(∀k,m≤k→ρ0 k=.unborn)→Rel X w0 ρ0 s ρ a w→ ∃ρ',Rel X w0 ρ0 s' ρ' a w
theorem cT.good {m:Nat} {c:Code} {s s':St} {Q:Ex→St→Prop} (h:cT m s s') (g:aS P m c s' Q):aS P m c s Q:=fun _ _ _ _ _ _ h0 r=>by
 obtain⟨ρ',r'⟩:=h h0 r
 exact g h0 r'
include hT hct in
theorem xU (bK:P.follows .mixedOrders=true) {m id:Nat} {draw:Bool} {s s':St} {p p':i6} {rs:List Rec} {ob:List Bool}
  (h:pC tt ct ops ops.toList 0 s.heap.length {s with heap:=s.heap++List.replicate (qM ops.toList) .unborn} [] p=some (rs,s',p',ob)) (ho: ∀b∈ob,b=true)
  (hd:(!draw||rG ops rs)=true):aS P m (.region id ops draw) s (fun e t=>e=.normal∧t=s'):=by
 intro X w0 ρ0 ρ a w h0 r
 have r1:Rel X w0 ρ0 {s with heap:=s.heap++List.replicate (qM ops.toList) .unborn} ρ a w:=⟨r.size,r.tmps,r.mem.reserve _,r.defers,r.mono,r.ids⟩
 obtain⟨g1,g2,g3⟩:=tL h ho (fun k hk1 hk2=>by
  unfold Heap.get
  rw[List.getD_eq_getElem?_getD,List.getElem?_append,if_neg (by omega),List.getElem?_replicate]
  split<;>rfl) (by simp)
 have hidx:rs.map (·.i)=List.range ops.size:=by
  apply List.ext_getElem?
  intro k
  rw[List.getElem?_map]
  by_cases hk:k<rs.length
  ·rw[List.getElem?_eq_getElem hk]
   have:=(g3 k _ (List.getElem?_eq_getElem hk)).1
   simp only[Option.map_some,this,Nat.zero_add]
   rw[List.getElem?_range (by rw[g2]at hk;simpa using hk)]
  ·rw[List.getElem?_eq_none (Nat.le_of_not_lt hk),List.getElem?_eq_none (by rw[g2]at hk;simp at hk⊢;omega)]
   rfl
 have hat: ∀r∈rs,ops[r.i]? =some r.o:=by
  intro r hr
  obtain⟨k,hk,rfl⟩:=List.getElem_of_mem hr
  obtain⟨a1,a2⟩:=g3 k _ (List.getElem?_eq_getElem hk)
  rw[a1,Nat.zero_add];simpa using a2
 have hend: ∀a w ρ,Rel X w0 ρ0 s' ρ a w→s0 X w0 ρ0 (fun e t=>e=.normal∧t=s') .normal a w:=fun a w ρ r=>⟨.normal,s',ρ,rfl,⟨rfl,rfl⟩,r⟩
 cases draw with
 |false=>
  refine wp_region ?_
  rw[←hidx]
  exact tU hT hct hend r1 g1 hat
 |true=>
  simp only[Bool.not_true,Bool.false_or,rG,Bool.and_eq_true,rpS]at hd
  refine wp_region_any bK ?_
  have r2:Rel X w0 ρ0 {s with heap:=s.heap++List.replicate (qM ops.toList) .unborn} ρ a {w with drawn:=w.drawn+1}:=
   ⟨r1.size,fun t ht=>(r1.tmps t ht).mono (bN.draw w ρ _),r1.mem.draw _,r1.defers,r1.mono.trans (bN.draw w ρ _).toB,r1.ids⟩
  have hsorted:rs.Pairwise (fun x y=>x.i<y.i):=by
   rw[List.pairwise_iff_getElem]
   intro i j hi hj hij
   have a1:=(g3 i _ (List.getElem?_eq_getElem hi)).1
   have a2:=(g3 j _ (List.getElem?_eq_getElem hj)).1
   omega
  refine EB hT hct hend hd.1 (by rw[g2];simp) r2 g1 (fun r hr=>⟨hat r hr, ?_⟩) (fun j hj _=> ?_) (fun j hj hl=> ?_) hsorted (lL hd.2) (by simp)
  ·have:=(Array.getElem?_eq_some_iff.1 (hat r hr)).1
   simp[Array.getD,this]
  ·have hj2:j<rs.length:=by rw[g2];simpa using hj
   refine⟨rs[j],List.getElem_mem hj2, ?_⟩
   have:=(g3 j _ (List.getElem?_eq_getElem hj2)).1
   omega
  ·simp[Array.getD,hj]at hl
end
end
section
variable {X : Nat → Prop}
theorem idx?_spec: ∀ {l:List Nat} {id k:Nat},idx? l id=some k→l[k]? =some id
 |[],id,k,h=>by simp[idx?]at h
 |x::r,id,k,h=>by
  simp only[idx?]at h
  split at h
  ·rename_i e;injection h with h;subst h;simp[e]
  ·obtain⟨j,h1,h2⟩:=Option.map_eq_some_iff.1 h
   subst h2;simpa using idx?_spec h1
theorem l3: ∀ {l:List Nat},cP l=true→ ∀ {i j x:Nat},l[i]? =some x→l[j]? =some x→i=j
 |[],_,i,j,x,h,_=>by simp at h
 |y::r,hn,i,j,x,h1,h2=>by
  simp only[cP,Bool.and_eq_true,rpS,Bool.not_eq_true']at hn
  have hy:y∉r:=fun hm=>by
   have:r.elem y=true:=List.elem_eq_true_of_mem hm
   rw[hn.1]at this;cases this
  cases i with
  |zero=>
   cases j with
   |zero=>rfl
   |succ j=>simp at h1 h2;subst h1;exact absurd (List.mem_of_getElem? h2) hy
  |succ i=>
   cases j with
   |zero=>simp at h1 h2;subst h2;exact absurd (List.mem_of_getElem? h1) hy
   |succ j=>congr 1;exact l3 hn.2 (by simpa using h1) (by simpa using h2)
theorem kG: ∀ {m k:Nat} {l:List Nat},fC m k l=true→ ∀i,i<m→l[i]? =some (k+i)
 |0,k,l,_,i,h=>absurd h (by omega)
 |m+1,k,[],h,i,hi=>by simp[fC]at h
 |m+1,k,x::r,h,i,hi=>by
  simp only[fC,Bool.and_eq_true,rpS,beq_iff_eq]at h
  cases i with
  |zero=>simp[h.1]
  |succ i=>
   have:=kG h.2 i (by omega)
   simp only[List.getElem?_cons_succ,this]
   congr 1;omega
theorem l6 (l:List Nat): ∀(cs:List aF) (i:Nat),(uK l cs).getD i .any=(cs.getD i .any).ren l
 |[],i=>by simp[uK,aF.ren]
 |x::r,0=>by simp[uK]
 |x::r,i+1=>by simpa [uK]using l6 l r i
theorem dO (l:List Nat): ∀cs:List aF,(uK l cs).length=cs.length
 |[]=>rfl
 |x::r=>by simp[uK,dO l r]
theorem vT (l:List Nat): ∀(vs:List AV) (i:Nat),(zT l vs).getD i (.tup [])=(vs.getD i (.tup [])).ren l
 |[],i=>by simp[zT,AV.ren]
 |x::r,0=>by simp[zT]
 |x::r,i+1=>by simpa [zT]using vT l r i
theorem kF (l:List Nat): ∀cs:List AV,(zT l cs).length=cs.length
 |[]=>rfl
 |x::r=>by simp[zT,kF l r]
def kO (l:List Nat) (ρ ρ':Rho):Prop:= ∀id k,idx? l id=some k→ρ' k=ρ id∨ρ' k=.dead
theorem CR0.ren {w:World} {L L':Nat→Prop} (hL: ∀b,L' b→L b) {l:List Nat} {ρ:Rho} {c:aF} {v:Value} (h:CR0 w L ρ c v): ∀ {ρ':Rho},kO l ρ ρ'→CR0 w L' ρ' (c.ren l) v:=by
 have mb:eD w L w L':=⟨fun _ _ _=>rfl,fun _ _=>rfl,Nat.le_refl _,fun b hb=> .inl (hL b hb)⟩
 induction h with
 |any v h=>exact fun _=> .any v h
 |int k n=>exact fun _=> .int k n
 |bool b=>exact fun _=> .bool b
 |str s=>exact fun _=> .str s
 |nilp=>exact fun _=> .nilp
 |nils=>exact fun _=> .nils
 |nilf=>exact fun _=> .nilf
 |ptrDead id i es j v hd h=>
  intro ρ' hr
  simp only[aF.ren]
  split
  ·rename_i k hk
   refine .ptrDead k i es j v ?_ h
   rcases hr _ _ hk with e|e
   ·rw[e];exact hd
   ·exact e
  ·exact .any v h
 |ptr id i es j b hb=>
  intro ρ' hr
  simp only[aF.ren]
  split
  ·rename_i k hk
   rcases hr _ _ hk with e|e
   ·exact .ptr k i es j b (by rw[e];exact hb)
   ·exact .ptrDead k i es j _ e rfl
  ·exact .any _ rfl
 |slDead id o len es cap v hd h=>
  intro ρ' hr
  simp only[aF.ren]
  split
  ·rename_i k hk
   refine .slDead k o len es none v ?_ h
   rcases hr _ _ hk with e|e
   ·rw[e];exact hd
   ·exact e
  ·exact .any v h
 |sl id o len es cap b c ty n hb hs hn hl hc=>
  intro ρ' hr
  simp only[aF.ren]
  split
  ·rename_i k hk
   rcases hr _ _ hk with e|e
   ·exact .sl k o len es none b c ty n (by rw[e];exact hb) hs hn hl (fun _ h=>by cases h)
   ·exact .slDead k o len es none _ e rfl
  ·exact .any _ rfl
 |slNone id o es cap a h1 hc=>
  intro ρ' hr
  simp only[aF.ren]
  split
  ·rename_i k hk
   rcases hr _ _ hk with e|e
   ·exact .slNone k o es none a (by rw[e];exact h1) (fun _ h=>by cases h)
   ·exact .slNone k o es none a (by rw[e];simp) (fun _ h=>by cases h)
  ·exact .any _ rfl
 |vptr c i es j b base u hl hc hu ih=>exact fun _=> .vptr c i es j b base u (fun h0 hb=>hl h0 (hL b hb)) hc (fun q hq=>(hu q hq).mono mb (.refl _))
 |view nl c len es cap b base k u hl hc hu hz hk hcap hnl ih=>
  exact fun _=> .view nl c len es cap b base k u (fun h0 hb=>hl h0 (hL b hb)) hc (fun q hq=>(hu q hq).mono mb (.refl _)) hz hk hcap hnl
 |viewNone nl c es cap a k hz hcap hnl hk=>exact fun _=> .viewNone nl c es cap a k hz hcap hnl hk
 |fn f caps vs hs h ih=>
  intro ρ' hr
  simp only[aF.ren]
  refine .fn f _ vs (by rw[dO];exact hs) fun i hi=> ?_
  rw[dO]at hi
  rw[l6]
  exact ih i hi hr
theorem orL {L L':Nat→Prop} (h: ∀b,L' b→L b): ∀b,(L' b∨X b)→(L b∨X b):=fun b hb=>hb.imp (h b) id
theorem AVR.ren {w:World} {ρ ρ':Rho} (hL: ∀b,bH ρ' b→bH ρ b) {l:List Nat} (hr:kO l ρ ρ') {x:AV} {v:Value} (h:AVR X w ρ x v):AVR X w ρ' (x.ren l) v:=by
 induction h with
 |any v=>exact .any v
 |c x v h=>exact .c _ _ (CR0.ren (orL hL) h hr)
 |agg cs vs hs h=>
  simp only[AV.ren]
  refine .agg _ _ (by rw[dO];exact hs) fun i hi=> ?_
  rw[dO]at hi;rw[l6]
  exact CR0.ren (orL hL) (h i hi) hr
 |tup cs vs hs h ih=>
  simp only[AV.ren]
  refine .tup _ _ (by rw[kF];exact hs) fun i hi=> ?_
  rw[kF]at hi;rw[vT]
  exact ih i hi
def bV (h:List aW) (l:List Nat) (ρ:Rho):Rho:=fun k=>
 match l[k]? with
 |some id=>(match Heap.get h id with|.live (.recs ..)=> .dead|_=>ρ id)
 |none=> .unborn
theorem eO {h:List aW} {l:List Nat} {ρ:Rho} {k id:Nat} (hk:l[k]? =some id):bV h l ρ k=ρ id∨bV h l ρ k=.dead:=by
 unfold bV;rw[hk];dsimp only;split
 ·exact .inr rfl
 ·exact .inl rfl
theorem hB {h:List aW} {l:List Nat} {ρ:Rho} {k b:Nat} (hb:bV h l ρ k=.row b): ∃id,l[k]? =some id∧ρ id=.row b:=by
 cases hk:l[k]? with
 |none=>unfold bV at hb;rw[hk]at hb;cases hb
 |some id=>
  rcases eO (h:=h) (ρ:=ρ) hk with e|e
  ·exact⟨id,rfl,by rw[←e];exact hb⟩
  ·rw[e]at hb;cases hb
theorem dJ (h:List aW) (l:List Nat) (ρ:Rho):kO l ρ (bV h l ρ):=fun id k hk=>eO (idx?_spec hk)
theorem dB (h:List aW) (l:List Nat) (ρ:Rho): ∀b,bH (bV h l ρ) b→bH ρ b:=fun b ⟨k,hk⟩=>by
 obtain⟨id,_,h2⟩:=hB hk;exact⟨id,h2⟩
theorem LH (h:List aW) (l:List Nat) (k:Nat):Heap.get (l.map fun id=>(Heap.get h id).ren l) k=(match l[k]? with|some id=>(Heap.get h id).ren l|none=> .unborn):=by
 unfold Heap.get
 rw[List.getD_eq_getElem?_getD,List.getElem?_map]
 cases l[k]? <;>rfl
theorem Mem.slot_ren {w0 w:World} {M:Nat→Prop} {h:List aW} {ρ:Rho} (m:Mem X w0 M h ρ w) {l:List Nat} {Y:Nat→Prop} (hY: ∀b,Y b→bH ρ b∨X b) (k:Nat):
  dT Y w (bV h l ρ) (Heap.get (l.map fun id=>(Heap.get h id).ren l) k) (bV h l ρ k):=by
 have hLL: ∀b,(bH (bV h l ρ) b∨Y b)→(bH ρ b∨X b):=fun b hb=>hb.elim (fun h'=> .inl (dB h l ρ b h')) (hY b)
 rw[LH]
 cases hk:l[k]? with
 |none=>unfold bV;rw[hk];trivial
 |some id=>
  have hs:=m.slot id
  have hr:bV h l ρ k=(match Heap.get h id with|.live (.recs ..)=> .dead|_=>ρ id):=by unfold bV;rw[hk]
  rw[hr]
  dsimp only
  cases hg:Heap.get h id with
  |unborn=>rw[hg]at hs;show dT Y w _ .unborn (ρ id);cases hx:ρ id<;>rw[hx]at hs<;>first|trivial|exact hs.elim
  |dead=>rw[hg]at hs;show dT Y w _ .dead (ρ id);cases hx:ρ id<;>rw[hx]at hs<;>first|trivial|exact hs.elim
  |live c=>
   rw[hg]at hs
   have keep:(∀q,(c.cell q).ids=[])→dT Y w (bV h l ρ) (.live c) (ρ id):=by
    intro hfree
    cases hx:ρ id with
    |unborn=>rw[hx]at hs;exact hs.elim
    |dead=>rw[hx]at hs;exact hs.elim
    |nil=>rw[hx]at hs;exact hs
    |row b=>
     rw[hx]at hs
     obtain⟨cs,ty,e,h1,h2⟩:=hs
     refine⟨cs,ty,e,h1,fun q hq=> ?_⟩
     have mb:eD w (fun b=>bH ρ b∨X b) w (fun b=>bH (bV h l ρ) b∨Y b):=⟨fun _ _ _=>rfl,fun _ _=>rfl,Nat.le_refl _,fun b hb=> .inl (hLL b hb)⟩
     exact((h2 q hq).free (hfree q)).mono mb (cB.noIds _)
   cases c with
   |recs e n f=>exact trivial
   |ints k xs=>exact keep fun q=>by simp[Con.cell,aF.ids]
   |bools xs=>exact keep fun q=>by simp[Con.cell,aF.ids]
   |ivs k xss=>exact keep fun q=>by simp[Con.cell,aF.ids]
   |cells cs=>
    simp only[aW.ren]
    cases hx:ρ id with
    |unborn=>rw[hx]at hs;exact hs.elim
    |dead=>rw[hx]at hs;exact hs.elim
    |nil=>rw[hx]at hs;simp only[dT,Con.size,dO]at hs⊢;exact hs
    |row b=>
     rw[hx]at hs
     obtain⟨vs,ty,e,h1,h2⟩:=hs
     refine⟨vs,ty,e,by simpa [Con.size,dO]using h1,fun q hq=> ?_⟩
     simp only[Con.size,dO]at hq
     simp only[Con.cell]
     rw[l6]
     exact CR0.ren hLL (h2 q hq) (dJ h l ρ)
theorem Mem.ren {w0 w:World} {M:Nat→Prop} {h:List aW} {ρ:Rho} (m:Mem X w0 M h ρ w) {l:List Nat} (hn:cP l=true):Mem X w0 M (l.map fun id=>(Heap.get h id).ren l) (bV h l ρ) w:=by
 refine⟨fun k=>m.slot_ren (fun b hb=> .inr hb) k,fun i j b hi hj=> ?_,fun k b hb=> ?_,m.os,m.tape,m.output,m.size,m.keep,m.foreign⟩
 ·obtain⟨a,a1,a2⟩:=hB hi
  obtain⟨c,c1,c2⟩:=hB hj
  have:=m.inj a c b a2 c2
  subst this
  exact l3 hn a1 c1
 ·obtain⟨a,a1,a2⟩:=hB hb
  exact m.own a b a2
theorem fO (live order:List Nat): ∀(l:List AV) (k:Nat),(sQ live order l k).length=l.length
 |[],_=>rfl
 |v::r,k=>by simp[sQ,fO live order r]
theorem mC (live order:List Nat): ∀(l:List AV) (k t:Nat),t<l.length→(sQ live order l k).getD t (.tup [])=bif live.elem (k+t)then(l.getD t (.tup [])).ren order else .any
 |[],_,t,h=>by simp at h
 |v::r,k,0,_=>by simp[sQ]
 |v::r,k,t+1,h=>by
  have:=mC live order r (k+1) t (by simpa using h)
  rw[show k+1+t=k+(t+1)from by omega]at this
  simpa [sQ]using this
theorem cT.remap {m:Nat} {s:St} {live order:List Nat} (hn:cP order=true) (hr:fC m 0 order=true):cT m s (remap live order s):=by
 intro X w0 ρ0 ρ a w h0 r
 refine⟨bV s.heap order ρ,⟨by simp[Am.remap,fO,r.size],fun t ht=> ?_,r.mem.ren hn,r.defers, ?_, ?_⟩⟩
 ·simp only[Am.remap,fO]at ht⊢
  rw[mC _ _ _ _ _ ht]
  cases live.elem (0+t)with
  |false=>exact .any _
  |true=>exact(r.tmps t ht).ren (dB _ _ _) (dJ _ _ _)
 ·exact r.mono.trans ⟨fun _ _ _=>rfl,fun _ _=>rfl,Nat.le_refl _,fun b hb=> .inl (dB _ _ _ b hb)⟩
 ·have key: ∀k,ρ0 k≠ .unborn→order[k]? =some k:=fun k hk=>by
   have hlt:k<m:=by
    rcases Nat.lt_or_ge k m with h|h
    ·exact h
    ·exact absurd (h0 k h) hk
   have:=kG hr k hlt
   rwa[Nat.zero_add]at this
  have one: ∀k,ρ0 k≠ .unborn→bV s.heap order ρ k=ρ k∨bV s.heap order ρ k=.dead:=fun k hk=>eO (key k hk)
  refine⟨fun id h=> ?_,fun id h=> ?_,fun id b h=> ?_⟩
  ·rcases one id (by rw[h];simp)with e|e
   ·rw[e];exact r.ids.dead id h
   ·exact e
  ·rcases one id (by rw[h];simp)with e|e
   ·rw[e];exact r.ids.nil id h
   ·exact .inr e
  ·rcases one id (by rw[h];simp)with e|e
   ·rw[e];exact r.ids.at_ id b h
   ·exact .inr e
theorem fD: ∀(l acc:List Nat),cP acc=true→cP (jL acc l)=true
 |[],acc,h=>h
 |x::r,acc,h=>by
  simp only[jL]
  cases he:acc.elem x with
  |true=>exact fD r acc h
  |false=>
   refine fD r _ ?_
   have hx:x∉acc:=fun hm=>by rw[List.elem_eq_true_of_mem hm]at he;cases he
   have: ∀(a:List Nat),cP a=true→x∉a→cP (a++[x])=true:=by
    intro a
    induction a with
    |nil=>intro _ _;rfl
    |cons y a iha=>
     intro hn hxa
     simp only[List.mem_cons,not_or]at hxa
     simp only[cP,Bool.and_eq_true,rpS,Bool.not_eq_true']at hn
     simp only[List.cons_append,cP,Bool.and_eq_true,rpS,Bool.not_eq_true']
     refine⟨?_,iha hn.2 hxa.2⟩
     cases hc:(a++[x]).elem y with
     |false=>rfl
     |true=>
      have:y∈a++[x]:=by simpa using hc
      rcases List.mem_append.1 this with h|h
      ·rw[List.elem_eq_true_of_mem h]at hn;cases hn.1
      ·simp at h;exact absurd h.symm hxa.1
   exact this acc h hx
theorem fE: ∀(l acc:List Nat) (m k:Nat),fC m k acc=true→fC m k (jL acc l)=true
 |[],acc,m,k,h=>h
 |x::r,acc,m,k,h=>by
  simp only[jL]
  cases he:acc.elem x with
  |true=>exact fE r acc m k h
  |false=>
   refine fE r _ m k ?_
   have: ∀(a:List Nat) (m k:Nat),fC m k a=true→fC m k (a++[x])=true:=by
    intro a
    induction a with
    |nil=>intro m k h;cases m<;>first|rfl|simp[fC]at h
    |cons y a iha=>
     intro m k h
     cases m with
     |zero=>rfl
     |succ m=>
      simp only[List.cons_append,fC,Bool.and_eq_true,rpS]at h⊢
      exact⟨h.1,iha m (k+1) h.2⟩
   exact this acc m k h
theorem jA: ∀(m k:Nat),fC m k (cL m k)=true
 |0,k=>rfl
 |m+1,k=>by simp[cL,fC,jA m (k+1)]
theorem vQ: ∀ {m k x:Nat},x∈cL m k→k≤x
 |0,k,x,h=>by cases h
 |m+1,k,x,h=>by
  rcases List.mem_cons.1 h with h|h
  ·omega
  ·have:=vQ h;omega
theorem j9: ∀(m k:Nat),cP (cL m k)=true
 |0,k=>rfl
 |m+1,k=>by
  simp only[cL,cP,Bool.and_eq_true,rpS,Bool.not_eq_true']
  refine⟨?_,j9 m (k+1)⟩
  cases h:(cL m (k+1)).elem k with
  |false=>rfl
  |true=>
   have:k∈cL m (k+1):=by simpa using h
   have:=vQ this;omega
theorem zP (m:Nat) (live:List Nat) (s:St):cP (J7 m live s)=true:=fD _ _ (fD _ _ (j9 _ _))
theorem zQ (m:Nat) (live:List Nat) (s:St):fC m 0 (J7 m live s)=true:=fE _ _ _ _ (fE _ _ _ _ (jA _ _))
theorem cT.fit (m:Nat) (live:List Nat) (s:St):cT m s (Am.fit m live s):=cT.remap (zP m live s) (zQ m live s)
end
end Go.Proofs.YthapjdpkelihiaaGreat.Am
