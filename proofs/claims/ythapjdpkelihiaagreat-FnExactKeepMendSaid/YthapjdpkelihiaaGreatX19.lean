/- DERIVED. Part 19 of the proof: C99, C100, C101. No statement of the program is proved here. -/
import Derived.Test.YthapjdpkelihiaaGreatX18
set_option linter.unusedSimpArgs false
set_option linter.unusedVariables false
set_option linter.unusedSectionVars false
namespace Go.Proofs.YthapjdpkelihiaaGreat.Am
section
noncomputable def T94:List bD:=[⟨164,[0,1,2,3],P8⟩]++T93
theorem e94:a6 Tryz.prog T94:=by
 refine a6.append ?_ e93
 intro e he
 simp only[List.mem_cons,List.not_mem_nil,or_false]at he
 subst he;exact mP2
theorem t94:bJ Tryz.prog (a9 T94):=aM e94
def ch (p:List Int→Bool) (sh:List Int):Nat→Nat→List Int→Option (List Int)
 |_,0,f=>bif p f then some f else none
 |0,_+1,_=>none
 |j+1,m+1,f=>match ch p sh j m (f++[sh.getD (sh.length-(j+1)) 0])with
  |some x=>some x
  |none=>ch p sh j (m+1) f
theorem VX (p:List Int→Bool) (sh:List Int) (j:Nat) (f:List Int):ch p sh j 0 f=bif p f then some f else none:=by cases j<;>rfl
def chR (k l:Int) (sh:List Int) (a m:Nat) (f:List Int):Option (List Int):=ch (plB k l) sh (sh.length-a) m f
def ogL (r:Option (List Int)) (x:List Int):List Int:=r.getD x
def orB (k l:Int) (r:Option (List Int)) (x:List Int):List Int:=uD (isO r) (plA k l (lsO r)) x
noncomputable abbrev fC1:=Tryz.f195
noncomputable def hC1 (n:Nat) (many:Int) (ns:Nat) (cur:List Int) (k l:Int) (b0:Int) (n1 n2:Nat) (sh F0 B0:List Int):List aW:=
 [.live (.cells [.sl 5 0 n 1 none]),.live (.ints .i64 [many]),.live (.cells [.fn 164 [.ptr 6 0 0 0,.ptr 7 0 0 0,.ptr 8 0 0 0]]),.live (.cells [.sl 9 0 ns 1 none]),.live (.cells [.fn 195 [.ptr 0 0 0 0,.ptr 1 0 0 0,.ptr 2 0 0 0,.ptr 3 0 0 0,.ptr 4 0 0 0]]),.live (.ints .i64 cur),.live (.ints .i64 [k]),.live (.ints .i64 [l]),.live (.cells [.int .i64 b0,.view none (.ints .i64 F0) n1 1 none,.view none (.ints .i64 B0) n2 1 none]),.live (.ints .i64 sh)]
noncomputable def oC1 (n:Nat) (many:Int) (ns:Nat) (cur:List Int) (k l:Int) (b0:Int) (n1 n2:Nat) (sh F0 B0:List Int):List aW:=
 [.live (.cells [.sl 10 0 n 1 none]),.live (.ints .i64 [many]),.live (.cells [.fn 164 [.ptr 6 0 0 0,.ptr 7 0 0 0,.ptr 8 0 0 0]]),.live (.cells [.sl 9 0 ns 1 none]),.live (.cells [.fn 195 [.ptr 0 0 0 0,.ptr 1 0 0 0,.ptr 2 0 0 0,.ptr 3 0 0 0,.ptr 4 0 0 0]]),.dead,.live (.ints .i64 [k]),.live (.ints .i64 [l]),.live (.cells [.int .i64 b0,.view none (.ints .i64 F0) n1 1 none,.view none (.ints .i64 B0) n2 1 none]),.live (.ints .i64 sh),.live (.ints .i64 cur)]
def FQ (x:Nat):aN:=fun args h=>
 match args,h with
 |[.c (.int .i64 a),.c (.ptr 0 0 0 0),.c (.ptr 1 0 0 0),.c (.ptr 2 0 0 0),.c (.ptr 3 0 0 0),.c (.ptr 4 0 0 0)],[.live (.cells [.sl 5 0 n 1 none]),.live (.ints .i64 [many]),.live (.cells [.fn p2 [.ptr 6 0 0 0,.ptr 7 0 0 0,.ptr 8 0 0 0]]),.live (.cells [.sl 9 0 ns 1 none]),.live (.cells [.fn c1 [.ptr 0 0 0 0,.ptr 1 0 0 0,.ptr 2 0 0 0,.ptr 3 0 0 0,.ptr 4 0 0 0]]),.live (.ints .i64 cur),.live (.ints .i64 [k]),.live (.ints .i64 [l]),.live (.cells [.int .i64 b0,.view none (.ints .i64 F0) n1 1 none,.view none (.ints .i64 B0) n2 1 none]),.live (.ints .i64 sh)]=>
  if p2=164∧c1=195 then
  some (.c (.bool (isO (chR k l sh a.toNat (many.toNat-cur.length) cur))),[.live (.cells [.sl 10 0 (ogL (chR k l sh a.toNat (many.toNat-cur.length) cur) cur).length 1 none]),.live (.ints .i64 [many]),.live (.cells [.fn 164 [.ptr 6 0 0 0,.ptr 7 0 0 0,.ptr 8 0 0 0]]),.live (.cells [.sl 9 0 sh.length 1 none]),.live (.cells [.fn 195 [.ptr 0 0 0 0,.ptr 1 0 0 0,.ptr 2 0 0 0,.ptr 3 0 0 0,.ptr 4 0 0 0]]),.dead,.live (.ints .i64 [k]),.live (.ints .i64 [l]),.live (.cells [.int .i64 (bif isO (chR k l sh a.toNat (many.toNat-cur.length) cur)then l else b0),.view none (.ints .i64 (ogL (chR k l sh a.toNat (many.toNat-cur.length) cur) F0)) (ogL (chR k l sh a.toNat (many.toNat-cur.length) cur) F0).length 1 none,.view none (.ints .i64 (orB k l (chR k l sh a.toNat (many.toNat-cur.length) cur) B0)) (orB k l (chR k l sh a.toNat (many.toNat-cur.length) cur) B0).length 1 none]),.live (.ints .i64 sh),.live (.ints .i64 (ogL (chR k l sh a.toNat (many.toNat-cur.length) cur) cur))],[decide (many.toNat-cur.length<x),bet k 1 2,bet l 0 7,aK sh,aK cur,decide (n=cur.length),decide (n1=F0.length),decide (n2=B0.length),decide (ns=sh.length),decide (sh.length≤8),bet a 0 sh.length,decide ((cur.length:Int)≤many),decide (many≤4)])
  else none
 |_,_=>none
noncomputable def T95 (x:Nat):List bD:=⟨195,[1,2,3,4,5],FQ x⟩::T94
noncomputable def IC1 (n:Nat) (many:Int) (ns:Nat) (cur:List Int) (k l:Int) (b0:Int) (n1 n2:Nat) (sh F0 B0:List Int) (i:Int):St:=aY fC1.ntmps [(1,.c (.ptr 0 0 0 0)),(4,.c (.ptr 3 0 0 0)),(5,.c (.ptr 4 0 0 0)),(8,.c (.int .i64 i))] (oC1 n many ns cur k l b0 n1 n2 sh F0 B0)
noncomputable def YC1 (n:Nat) (many:Int) (ns:Nat) (cur:List Int) (k l:Int) (b0:Int) (n1 n2:Nat) (sh F0 B0:List Int):St:=aY fC1.ntmps [(7,.c (.bool true))] (oC1 n many ns cur k l b0 n1 n2 sh F0 B0)
noncomputable def XC1 (n:Nat) (many:Int) (ns:Nat) (cur:List Int) (k l:Int) (b0:Int) (n1 n2:Nat) (sh F0 B0:List Int):St:=aY fC1.ntmps [] (oC1 n many ns cur k l b0 n1 n2 sh F0 B0)
noncomputable def JC1 (n:Nat) (many:Int) (ns:Nat) (cur:List Int) (k l:Int) (b0:Int) (n1 n2:Nat) (sh F0 B0:List Int) (i:Int):St:=aY fC1.ntmps [(1,.c (.ptr 0 0 0 0)),(4,.c (.ptr 3 0 0 0)),(5,.c (.ptr 4 0 0 0)),(8,.c (.int .i64 i))] (hC1 n many ns cur k l b0 n1 n2 sh F0 B0)
theorem VK (x:Nat) (a:Int) (n:Nat) (many:Int) (ns:Nat) (cur:List Int) (k l:Int) (b0:Int) (n1 n2:Nat) (sh F0 B0:List Int) (lcv:List (Nat×LC)):aD tt (a9 (T95 x)) (lcv) 100 fC1 [.c (.int .i64 a),.c (.ptr 0 0 0 0),.c (.ptr 1 0 0 0),.c (.ptr 2 0 0 0),.c (.ptr 3 0 0 0),.c (.ptr 4 0 0 0)] (hC1 n many ns cur k l b0 n1 n2 sh F0 B0) [(0,true)]=
  some ⟨.c (.bool (plB k l cur)),[.live (.cells [.sl 5 0 n 1 none]),.live (.ints .i64 [many]),.live (.cells [.fn 164 [.ptr 6 0 0 0,.ptr 7 0 0 0,.ptr 8 0 0 0]]),.live (.cells [.sl 9 0 ns 1 none]),.live (.cells [.fn 195 [.ptr 0 0 0 0,.ptr 1 0 0 0,.ptr 2 0 0 0,.ptr 3 0 0 0,.ptr 4 0 0 0]]),.live (.ints .i64 cur),.live (.ints .i64 [k]),.live (.ints .i64 [l]),.live (.cells [.int .i64 (bif plB k l cur then l else b0),.view none (.ints .i64 (uD (plB k l cur) cur F0)) (uD (plB k l cur) cur F0).length 1 none,.view none (.ints .i64 (uD (plB k l cur) (plA k l cur) B0)) (uD (plB k l cur) (plA k l cur) B0).length 1 none]),.live (.ints .i64 sh)],(((↑n:Int)==many)&&(bet k 1 2&&(bet l 0 7&&(aK cur&&(decide (cur.length≤8)&&(decide (n=cur.length)&&(decide (n1=F0.length)&&((decide (n2=B0.length))&&true)))))))),[]⟩:=by kernel_rfl
theorem VL (x:Nat) (a:Int) (n:Nat) (many:Int) (ns:Nat) (cur:List Int) (k l:Int) (b0:Int) (n1 n2:Nat) (sh F0 B0:List Int):aD tt (a9 (T95 x)) ([(0,⟨a8 fC1 0,JC1 n many ns cur k l b0 n1 n2 sh F0 B0 a,.normal,XC1 n many ns cur k l b0 n1 n2 sh F0 B0⟩)]) 100 fC1 [.c (.int .i64 a),.c (.ptr 0 0 0 0),.c (.ptr 1 0 0 0),.c (.ptr 2 0 0 0),.c (.ptr 3 0 0 0),.c (.ptr 4 0 0 0)] (hC1 n many ns cur k l b0 n1 n2 sh F0 B0) [(0,false)]=
  some ⟨.c (.bool false),[.live (.cells [.sl 10 0 n 1 none]),.live (.ints .i64 [many]),.live (.cells [.fn 164 [.ptr 6 0 0 0,.ptr 7 0 0 0,.ptr 8 0 0 0]]),.live (.cells [.sl 9 0 ns 1 none]),.live (.cells [.fn 195 [.ptr 0 0 0 0,.ptr 1 0 0 0,.ptr 2 0 0 0,.ptr 3 0 0 0,.ptr 4 0 0 0]]),.dead,.live (.ints .i64 [k]),.live (.ints .i64 [l]),.live (.cells [.int .i64 b0,.view none (.ints .i64 F0) n1 1 none,.view none (.ints .i64 B0) n2 1 none]),.live (.ints .i64 sh),.live (.ints .i64 cur)],((!(↑n:Int)==many)&&true),[JC1 n many ns cur k l b0 n1 n2 sh F0 B0 a=JC1 n many ns cur k l b0 n1 n2 sh F0 B0 a]⟩:=by kernel_rfl
theorem VJ (x:Nat) (a:Int) (n:Nat) (many:Int) (ns:Nat) (cur:List Int) (k l:Int) (b0:Int) (n1 n2:Nat) (sh F0 B0:List Int) (n':Nat) (ns':Nat) (cur':List Int) (b':Int) (n1' n2':Nat) (F' B':List Int):aD tt (a9 (T95 x)) ([(0,⟨a8 fC1 0,JC1 n many ns cur k l b0 n1 n2 sh F0 B0 a,.ret,YC1 n' many ns' cur' k l b' n1' n2' sh F' B'⟩)]) 100 fC1 [.c (.int .i64 a),.c (.ptr 0 0 0 0),.c (.ptr 1 0 0 0),.c (.ptr 2 0 0 0),.c (.ptr 3 0 0 0),.c (.ptr 4 0 0 0)] (hC1 n many ns cur k l b0 n1 n2 sh F0 B0) [(0,false)]=
  some ⟨.c (.bool true),[.live (.cells [.sl 10 0 n' 1 none]),.live (.ints .i64 [many]),.live (.cells [.fn 164 [.ptr 6 0 0 0,.ptr 7 0 0 0,.ptr 8 0 0 0]]),.live (.cells [.sl 9 0 ns' 1 none]),.live (.cells [.fn 195 [.ptr 0 0 0 0,.ptr 1 0 0 0,.ptr 2 0 0 0,.ptr 3 0 0 0,.ptr 4 0 0 0]]),.dead,.live (.ints .i64 [k]),.live (.ints .i64 [l]),.live (.cells [.int .i64 b',.view none (.ints .i64 F') n1' 1 none,.view none (.ints .i64 B') n2' 1 none]),.live (.ints .i64 sh),.live (.ints .i64 cur')],((!(↑n:Int)==many)&&true),[JC1 n many ns cur k l b0 n1 n2 sh F0 B0 a=JC1 n many ns cur k l b0 n1 n2 sh F0 B0 a]⟩:=by kernel_rfl
theorem SW (x:Nat) (i:Int) (n:Nat) (many:Int) (ns:Nat) (cur:List Int) (k l:Int) (b0:Int) (n1 n2:Nat) (sh F0 B0:List Int):aC 10 (a8 fC1 0) (aA fC1 0) (aG tt (a9 (T95 x)) ([]) 10 100 (a0 0 (a5 fC1)) (IC1 n many ns cur k l b0 n1 n2 sh F0 B0 i) [(0,true),(0,true)])=
  some (.ret,(decide (i<(↑ns:Int))&&(decide (0≤i)&&(decide (i<(↑ns:Int))&&(decide (i.toNat<sh.length)&&(decide (n=cur.length)&&(decide (n+1≤274877906944)&&(decide (many.toNat-(cur++[sh.getD i.toNat 0]).length<x)&&(bet k 1 2&&(bet l 0 7&&(aK sh&&(aK (cur++[sh.getD i.toNat 0])&&(decide (n+1=(cur++[sh.getD i.toNat 0]).length)&&(decide (n1=F0.length)&&(decide (n2=B0.length)&&(decide (ns=sh.length)&&(decide (sh.length≤8)&&(bet (IntKind.i64.wrap (i+1)) 0 (↑sh.length:Int)&&(decide ((↑(cur++[sh.getD i.toNat 0]).length:Int)≤many)&&(decide (many≤4)&&((isO (chR k l sh (IntKind.i64.wrap (i+1)).toNat (many.toNat-(cur++[sh.getD i.toNat 0]).length) (cur++[sh.getD i.toNat 0])))&&true)))))))))))))))))))),[],YC1 ((ogL (chR k l sh (IntKind.i64.wrap (i+1)).toNat (many.toNat-(cur++[sh.getD i.toNat 0]).length) (cur++[sh.getD i.toNat 0])) (cur++[sh.getD i.toNat 0])).length) many (sh.length) (ogL (chR k l sh (IntKind.i64.wrap (i+1)).toNat (many.toNat-(cur++[sh.getD i.toNat 0]).length) (cur++[sh.getD i.toNat 0])) (cur++[sh.getD i.toNat 0])) k l (bif isO (chR k l sh (IntKind.i64.wrap (i+1)).toNat (many.toNat-(cur++[sh.getD i.toNat 0]).length) (cur++[sh.getD i.toNat 0]))then l else b0) ((ogL (chR k l sh (IntKind.i64.wrap (i+1)).toNat (many.toNat-(cur++[sh.getD i.toNat 0]).length) (cur++[sh.getD i.toNat 0])) F0).length) ((orB k l (chR k l sh (IntKind.i64.wrap (i+1)).toNat (many.toNat-(cur++[sh.getD i.toNat 0]).length) (cur++[sh.getD i.toNat 0])) B0).length) sh (ogL (chR k l sh (IntKind.i64.wrap (i+1)).toNat (many.toNat-(cur++[sh.getD i.toNat 0]).length) (cur++[sh.getD i.toNat 0])) F0) (orB k l (chR k l sh (IntKind.i64.wrap (i+1)).toNat (many.toNat-(cur++[sh.getD i.toNat 0]).length) (cur++[sh.getD i.toNat 0])) B0)):=by kernel_rfl
theorem SX (x:Nat) (i:Int) (n:Nat) (many:Int) (ns:Nat) (cur:List Int) (k l:Int) (b0:Int) (n1 n2:Nat) (sh F0 B0:List Int):aC 10 (a8 fC1 0) (aA fC1 0) (aG tt (a9 (T95 x)) ([]) 10 100 (a0 0 (a5 fC1)) (IC1 n many ns cur k l b0 n1 n2 sh F0 B0 i) [(0,true),(0,false)])=
  some (.normal,(decide (i<(↑ns:Int))&&(decide (0≤i)&&(decide (i<(↑ns:Int))&&(decide (i.toNat<sh.length)&&(decide (n=cur.length)&&(decide (n+1≤274877906944)&&(decide (many.toNat-(cur++[sh.getD i.toNat 0]).length<x)&&(bet k 1 2&&(bet l 0 7&&(aK sh&&(aK (cur++[sh.getD i.toNat 0])&&(decide (n+1=(cur++[sh.getD i.toNat 0]).length)&&(decide (n1=F0.length)&&(decide (n2=B0.length)&&(decide (ns=sh.length)&&(decide (sh.length≤8)&&(bet (IntKind.i64.wrap (i+1)) 0 (↑sh.length:Int)&&(decide ((↑(cur++[sh.getD i.toNat 0]).length:Int)≤many)&&(decide (many≤4)&&(!isO (chR k l sh (IntKind.i64.wrap (i+1)).toNat (many.toNat-(cur++[sh.getD i.toNat 0]).length) (cur++[sh.getD i.toNat 0]))&&(decide (0≤IntKind.i64.wrap ((↑(ogL (chR k l sh (IntKind.i64.wrap (i+1)).toNat (many.toNat-(cur++[sh.getD i.toNat 0]).length) (cur++[sh.getD i.toNat 0])) (cur++[sh.getD i.toNat 0])).length:Int)-1))&&((decide (IntKind.i64.wrap ((↑(ogL (chR k l sh (IntKind.i64.wrap (i+1)).toNat (many.toNat-(cur++[sh.getD i.toNat 0]).length) (cur++[sh.getD i.toNat 0])) (cur++[sh.getD i.toNat 0])).length:Int)-1)≤(↑(ogL (chR k l sh (IntKind.i64.wrap (i+1)).toNat (many.toNat-(cur++[sh.getD i.toNat 0]).length) (cur++[sh.getD i.toNat 0])) (cur++[sh.getD i.toNat 0])).length:Int)))&&true)))))))))))))))))))))),[],IC1 ((IntKind.i64.wrap ((↑(ogL (chR k l sh (IntKind.i64.wrap (i+1)).toNat (many.toNat-(cur++[sh.getD i.toNat 0]).length) (cur++[sh.getD i.toNat 0])) (cur++[sh.getD i.toNat 0])).length:Int)-1)).toNat) many (sh.length) (ogL (chR k l sh (IntKind.i64.wrap (i+1)).toNat (many.toNat-(cur++[sh.getD i.toNat 0]).length) (cur++[sh.getD i.toNat 0])) (cur++[sh.getD i.toNat 0])) k l (bif isO (chR k l sh (IntKind.i64.wrap (i+1)).toNat (many.toNat-(cur++[sh.getD i.toNat 0]).length) (cur++[sh.getD i.toNat 0]))then l else b0) ((ogL (chR k l sh (IntKind.i64.wrap (i+1)).toNat (many.toNat-(cur++[sh.getD i.toNat 0]).length) (cur++[sh.getD i.toNat 0])) F0).length) ((orB k l (chR k l sh (IntKind.i64.wrap (i+1)).toNat (many.toNat-(cur++[sh.getD i.toNat 0]).length) (cur++[sh.getD i.toNat 0])) B0).length) sh (ogL (chR k l sh (IntKind.i64.wrap (i+1)).toNat (many.toNat-(cur++[sh.getD i.toNat 0]).length) (cur++[sh.getD i.toNat 0])) F0) (orB k l (chR k l sh (IntKind.i64.wrap (i+1)).toNat (many.toNat-(cur++[sh.getD i.toNat 0]).length) (cur++[sh.getD i.toNat 0])) B0) (IntKind.i64.wrap (i+1))):=by kernel_rfl
theorem SY (x:Nat) (i:Int) (n:Nat) (many:Int) (ns:Nat) (cur:List Int) (k l:Int) (b0:Int) (n1 n2:Nat) (sh F0 B0:List Int):aC 10 (a8 fC1 0) (aA fC1 0) (aG tt (a9 (T95 x)) ([]) 10 100 (a0 0 (a5 fC1)) (IC1 n many ns cur k l b0 n1 n2 sh F0 B0 i) [(0,false)])=
  some (.exit 0,((!decide (i<(↑ns:Int)))&&true),[],XC1 (n) many (ns) (cur) k l (b0) (n1) (n2) sh (F0) (B0)):=by kernel_rfl
theorem wJC (n:Nat) (many:Int) (ns:Nat) (cur:List Int) (k l:Int) (b0:Int) (n1 n2:Nat) (sh F0 B0:List Int) (i:Int):cT 10 (JC1 n many ns cur k l b0 n1 n2 sh F0 B0 i) (IC1 n many ns cur k l b0 n1 n2 sh F0 B0 i):=(cT.addDead (s:=JC1 n many ns cur k l b0 n1 n2 sh F0 B0 i)).trans (by
 have h:=cT.remapD (m:=10) (s:=⟨(JC1 n many ns cur k l b0 n1 n2 sh F0 B0 i).tmps,(JC1 n many ns cur k l b0 n1 n2 sh F0 B0 i).heap++[.dead]⟩) (live:=[1,4,5,8]) (order:=[0,1,2,3,4,10,6,7,8,9,5]) (by kernel_rfl) (by kernel_rfl)
 have e:Am.remap [1,4,5,8] [0,1,2,3,4,10,6,7,8,9,5] ⟨(JC1 n many ns cur k l b0 n1 n2 sh F0 B0 i).tmps,(JC1 n many ns cur k l b0 n1 n2 sh F0 B0 i).heap++[.dead]⟩=IC1 n many ns cur k l b0 n1 n2 sh F0 B0 i:=by kernel_rfl
 rw[e]at h
 exact h)
theorem JX (cur:List Int) (y:Int):(cur++[y]).take cur.length=cur:=by rw[List.take_append_of_le_length (Nat.le_refl _),List.take_length]
theorem wIC (n:Nat) (many:Int) (ns:Nat) (cur:List Int) (k l:Int) (b0:Int) (n1 n2:Nat) (sh F0 B0:List Int) (y:Int) (i:Int):cT 10 (IC1 n many ns (cur++[y]) k l b0 n1 n2 sh F0 B0 i) (IC1 n many ns cur k l b0 n1 n2 sh F0 B0 i):=by
 have h:=c6.take .i64 (cur++[y]) cur.length
 rw[JX]at h
 exact cT.slots ⟨c6.refl _,c6.refl _,c6.refl _,c6.refl _,c6.refl _,c6.refl _,c6.refl _,c6.refl _,c6.refl _,c6.refl _,h,trivial⟩
theorem jF: ∀h:List aW,nV h h
 |[]=>trivial
 |s::r=>⟨c6.refl s,jF r⟩
theorem lC1 (x:Nat) (ht:bJ Tryz.prog (a9 (T95 x))) (many:Int) (cur:List Int) (k l b0:Int) (sh F0 B0:List Int) (M:Nat) (hx:M<x) (hk:bet k 1 2=true) (hl:bet l 0 7=true) (hsh:aK sh=true) (hcur:aK cur=true) (h8:sh.length≤8) (hm:many=((cur.length+(M+1):Nat):Int)) (h4:many≤4):
  ∀j,j≤sh.length→aS Tryz.prog 10 (.block 0 (.loop (a0 0 (a5 fC1)))) (IC1 cur.length many sh.length cur k l b0 F0.length B0.length sh F0 B0 ((sh.length-j:Nat):Int)) fun e t=>e=(bif isO (ch (plB k l) sh j (M+1) cur)then .ret else .normal)∧t=(bif isO (ch (plB k l) sh j (M+1) cur)then YC1 (ogL (ch (plB k l) sh j (M+1) cur) cur).length many sh.length (ogL (ch (plB k l) sh j (M+1) cur) cur) k l (bif isO (ch (plB k l) sh j (M+1) cur)then l else b0) (ogL (ch (plB k l) sh j (M+1) cur) F0).length (orB k l (ch (plB k l) sh j (M+1) cur) B0).length sh (ogL (ch (plB k l) sh j (M+1) cur) F0) (orB k l (ch (plB k l) sh j (M+1) cur) B0)else XC1 cur.length many sh.length cur k l b0 F0.length B0.length sh F0 B0):=by
 refine aS.roundsW hT ht bK (m:=10) (id:=0) (body:=a0 0 (a5 fC1)) (α:=Nat) (fun j=>j≤sh.length) (fun j=>IC1 cur.length many sh.length cur k l b0 F0.length B0.length sh F0 B0 ((sh.length-j:Nat):Int)) (fun j=>j) (a8 fC1 0) (aA fC1 0)
  (fun j=>bif isO (ch (plB k l) sh j (M+1) cur)then .ret else .normal) (fun j=>bif isO (ch (plB k l) sh j (M+1) cur)then YC1 (ogL (ch (plB k l) sh j (M+1) cur) cur).length many sh.length (ogL (ch (plB k l) sh j (M+1) cur) cur) k l (bif isO (ch (plB k l) sh j (M+1) cur)then l else b0) (ogL (ch (plB k l) sh j (M+1) cur) F0).length (orB k l (ch (plB k l) sh j (M+1) cur) B0).length sh (ogL (ch (plB k l) sh j (M+1) cur) F0) (orB k l (ch (plB k l) sh j (M+1) cur) B0)else XC1 cur.length many sh.length cur k l b0 F0.length B0.length sh F0 B0) (fun _=>[]) (fun _ _=>aI.nil) (fun j hj=> ?_)
 cases j with
 |zero=>
  refine⟨_,_,_,_,_,_,SY x ((sh.length-0:Nat):Int) cur.length many sh.length cur k l b0 F0.length B0.length sh F0 B0,by simp,by simp,.inr (.inl ⟨rfl,rfl, ?_⟩)⟩
  exact cT.slots (jF _)
 |succ j=>
  obtain⟨a,ha⟩: ∃a:Nat,sh.length-(j+1)=a:=⟨_,rfl⟩
  have go:ch (plB k l) sh (j+1) (M+1) cur=(match ch (plB k l) sh j M (cur++[sh.getD a 0])with|some y=>some y|none=>ch (plB k l) sh j (M+1) cur):=by rw[←ha];rfl
  rw[ha]
  have w1:IntKind.i64.wrap ((a:Int)+1)=((a+1:Nat):Int):=by rw[aB (by omega) (by omega)];omega
  have hy:aK (cur++[sh.getD a 0])=true:=by
   have:=cA hsh (i:=a) (by omega)
   simp only[aK,List.all_append,List.all_cons,List.all_nil,Bool.and_true,rpS,Bool.and_eq_true]at hcur⊢
   exact⟨hcur,this⟩
  have er:chR k l sh (a+1) (many.toNat-(cur++[sh.getD a 0]).length) (cur++[sh.getD a 0])=ch (plB k l) sh j M (cur++[sh.getD a 0]):=by
   unfold chR
   rw[show sh.length-(a+1)=j from by omega,show many.toNat-(cur++[sh.getD a 0]).length=M from by rw[List.length_append,hm];simp;omega]
  have b1:bet ((a+1:Nat):Int) 0 (sh.length:Int)=true:=aX.2 (by omega)
  rw[go]
  cases hr:ch (plB k l) sh j M (cur++[sh.getD a 0])with
  |some y=>
   have e:=SW x (a:Int) cur.length many sh.length cur k l b0 F0.length B0.length sh F0 B0
   rw[w1]at e
   simp only[Int.toNat_natCast,er,hr]at e
   refine⟨_,_,_,_,_,_,e, ?_,by simp,.inr (.inr ⟨by simp,by simp,rfl,cT.slots (jF _)⟩)⟩
   simp only[hk,hl,hsh,hy,b1,isO,Option.isSome_some,List.length_append,List.length_cons,List.length_nil,decide_true,bS,rpS]
   omega
  |none=>
   have e:=SX x (a:Int) cur.length many sh.length cur k l b0 F0.length B0.length sh F0 B0
   rw[w1]at e
   simp only[Int.toNat_natCast,er,hr]at e
   refine⟨_,_,_,_,_,_,e, ?_,by simp,.inl ⟨rfl,j,by omega,Nat.lt_succ_self _, ?_,rfl,rfl⟩⟩
   ·simp only[hk,hl,hsh,hy,b1,isO,Option.isSome_none,List.length_append,List.length_cons,List.length_nil,decide_true,bS,rpS]
    have w3:IntKind.i64.wrap (((cur.length+1:Nat):Int)-1)=(cur.length:Int):=by rw[aB (by omega) (by omega)];omega
    simp only[ogL,Option.getD_none,List.length_append,List.length_cons,List.length_nil,Nat.zero_add,w3]
    omega
   ·have w3:IntKind.i64.wrap (((cur++[sh.getD a 0]).length:Int)-1)=(cur.length:Int):=by rw[List.length_append,aB (by simp<;>omega) (by simp<;>omega)];simp
    rw[show sh.length-j=a+1 from by omega]
    simp only[ogL,isO,orB,uD,Option.isSome_none,Option.getD_none,cond_false,w3,Int.toNat_natCast]
    exact wIC _ _ _ _ _ _ _ _ _ _ _ _ _ _
end
section
theorem mC1: ∀x,aP Tryz.prog 195 (FQ x):=by
 intro x
 induction x with
 |zero=>
  intro args h res h' o he ho
  unfold FQ at he
  split at he
  case h_2=>cases he
  split at he
  case isFalse=>cases he
  simp only[Option.some.injEq,Prod.mk.injEq]at he
  obtain⟨rfl,rfl,rfl⟩:=he
  simp only[List.mem_cons,List.not_mem_nil,or_false,forall_eq_or_imp,forall_eq,decide_eq_true_eq]at ho
  omega
 |succ x ih=>
  have ht:bJ Tryz.prog (a9 (T95 x)):=aM fun e he=>by
   rcases List.mem_cons.1 he with rfl|he
   ·exact ih
   ·exact e94 e he
  intro args h res h' o he ho
  unfold FQ at he
  split at he
  case h_2=>cases he
  split at he
  case isFalse=>cases he
  rename_i a n many p2 ns c1 cur k l b0 F0 n1 B0 n2 sh hp
  obtain⟨rfl,rfl⟩:=hp
  simp only[Option.some.injEq,Prod.mk.injEq]at he
  obtain⟨rfl,rfl,rfl⟩:=he
  simp only[List.mem_cons,List.not_mem_nil,or_false,forall_eq_or_imp,forall_eq,decide_eq_true_eq]at ho
  obtain⟨o1,o2,o3,o4,o5,o6,o7,o8,o9,o10,o11,o12,o13⟩:=ho
  subst o6 o7 o8 o9
  have hb:=aX.1 o11
  obtain⟨a,rfl⟩: ∃a':Nat,a=(a':Int):=⟨a.toNat,by omega⟩
  obtain⟨M,hM⟩: ∃M,many.toNat-cur.length=M:=⟨_,rfl⟩
  have hm:many=((cur.length+M:Nat):Int):=by omega
  rw[hM]
  simp only[Int.toNat_natCast]
  cases M with
  |zero=>
   have er:chR k l sh a 0 cur=bif plB k l cur then some cur else none:=VX _ _ _ _
   rw[er]
   have h0:((cur.length:Int)==many)=true:=by rw[beq_iff_eq];omega
   have e:=VK x (a:Int) cur.length many sh.length cur k l b0 F0.length B0.length sh F0 B0 []
   cases hp:plB k l cur with
   |true=>
    rw[hp]at e
    exact((mo ht e (by simp only[h0,o2,o3,o5,bS,rpS];omega)).addDead).remapD (order:=[0,1,2,3,4,10,6,7,8,9,5]) (by kernel_rfl) (by kernel_rfl)
   |false=>
    rw[hp]at e
    exact((mo ht e (by simp only[h0,o2,o3,o5,bS,rpS];omega)).addDead).remapD (order:=[0,1,2,3,4,10,6,7,8,9,5]) (by kernel_rfl) (by kernel_rfl)
  |succ M=>
   have h0:((cur.length:Int)==many)=false:=by rw[beq_eq_false_iff_ne];omega
   have g:=lC1 x ht many cur k l b0 sh F0 B0 M (by omega) o2 o3 o4 o5 o10 hm o13 (sh.length-a) (by omega)
   rw[show sh.length-(sh.length-a)=a from by omega]at g
   have g:=g.pre (wJC cur.length many sh.length cur k l b0 F0.length B0.length sh F0 B0 a)
   have er:chR k l sh a (M+1) cur=ch (plB k l) sh (sh.length-a) (M+1) cur:=rfl
   rw[er]
   cases hr:ch (plB k l) sh (sh.length-a) (M+1) cur with
   |some y=>
    rw[hr]at g
    exact mo ht (VJ x (a:Int) cur.length many sh.length cur k l b0 F0.length B0.length sh F0 B0 (ogL (some y) cur).length sh.length (ogL (some y) cur) l (ogL (some y) F0).length (orB k l (some y) B0).length (ogL (some y) F0) (orB k l (some y) B0)) (by simp only[h0,bS,rpS]) (hlc:=(fun cc hcc=>aI.cons (c:=cc) (by cases hcc;kernel_rfl) (by cases hcc;exact g) aI.nil))
   |none=>
    rw[hr]at g
    exact mo ht (VL x (a:Int) cur.length many sh.length cur k l b0 F0.length B0.length sh F0 B0) (by simp only[h0,bS,rpS]) (hlc:=(fun cc hcc=>aI.cons (c:=cc) (by cases hcc;kernel_rfl) (by cases hcc;exact g) aI.nil))
end
section
theorem a70:aP Tryz.prog 162 (fJ tt (a9 T94) Tryz.f162 []):=dZ hT t94 bK [] (by kernel_rfl) (by kernel_rfl)
noncomputable def T97:List bD:=[⟨195,[1,2,3,4,5],FQ 5⟩,⟨162,[1],fJ tt (a9 T94) Tryz.f162 []⟩]++T94
theorem e97:a6 Tryz.prog T97:=by
 refine a6.append ?_ e94
 intro e he
 simp only[List.mem_cons,List.not_mem_nil,or_false]at he
 rcases he with rfl|rfl
 ·exact mC1 5
 ·exact a70
theorem t97:bJ Tryz.prog (a9 T97):=aM e97
noncomputable abbrev eU:=Tryz.f176
noncomputable def jI (l:Int) (v:List Int) (i:Int):St:=
 aY eU.ntmps [(0,.c (.sl 0 0 v.length 1 none)),(1,.c (.fn 162 [.ptr 1 0 0 0])),(7,.c (.int .i64 v.length)),(8,.c (.int .i64 i))] [.live (.ints .i64 v),.live (.ints .i64 [l])]
noncomputable def GN (l:Int) (v:List Int):St:=aY eU.ntmps [] [.live (.ints .i64 v),.live (.ints .i64 [l])]
noncomputable def GT (l:Int) (v:List Int) (i:Int):St:=aY eU.ntmps [(4,.c (.int .i64 i))] [.live (.ints .i64 v),.live (.ints .i64 [l])]
theorem MQ (l:Int) (v:List Int) (i:Int):aC 2 (a8 eU 0) (aA eU 0) (aG tt (a9 T97) ([]) 2 100 (a0 0 (a5 eU)) (jI l v i) [(0,true),(0,true)])=
  some (.ret,(decide (i<(↑v.length:Int))&&(decide (0≤i)&&(decide (i<(↑v.length:Int))&&(decide (i.toNat<v.length)&&((v.getD i.toNat 0==l)&&true))))),[],GT l v (i)):=by kernel_rfl
theorem MR (l:Int) (v:List Int) (i:Int):aC 2 (a8 eU 0) (aA eU 0) (aG tt (a9 T97) ([]) 2 100 (a0 0 (a5 eU)) (jI l v i) [(0,true),(0,false)])=
  some (.normal,(decide (i<(↑v.length:Int))&&(decide (0≤i)&&(decide (i<(↑v.length:Int))&&(decide (i.toNat<v.length)&&((!v.getD i.toNat 0==l)&&true))))),[],jI l v (IntKind.i64.wrap (i+1))):=by kernel_rfl
theorem MS (l:Int) (v:List Int) (i:Int):aC 2 (a8 eU 0) (aA eU 0) (aG tt (a9 T97) ([]) 2 100 (a0 0 (a5 eU)) (jI l v i) [(0,false)])=
  some (.exit 0,((!decide (i<(↑v.length:Int)))&&true),[],GN l v):=by kernel_rfl
noncomputable def OQ (l:Int) (v:List Int):Option Nat→St
 |some j=>GT l v j
 |none=>GN l v
theorem WN (l:Int) (v:List Int) (hl:v.length≤274877906944):
  aS Tryz.prog 2 (.block 0 (.loop (a0 0 (a5 eU)))) (jI l v 0) fun e t=>e=qV (dQ (fun x=>x==l) v)∧t=OQ l v (dQ (fun x=>x==l) v):=by
 refine aS.roundsR hT t97 bK (m:=2) (id:=0) (body:=a0 0 (a5 eU)) (α:=Nat)
  (fun i=>i≤v.length∧dA (fun x=>x==l) v (v.length-i) i=dQ (fun x=>x==l) v) (fun i=>jI l v i) (fun i=>v.length-i) (a8 eU 0) (aA eU 0)
  (fun _=>qV (dQ (fun x=>x==l) v)) (fun _=>OQ l v (dQ (fun x=>x==l) v)) (fun _=>[]) (fun _ _=>aI.nil) (fun i hx=> ?_) 0 ⟨by simp,rfl⟩
 obtain⟨h1,h3⟩:=hx
 by_cases hi:i<v.length
 ·have hk:v.length-i=(v.length-(i+1))+1:=by omega
  rw[hk]at h3
  simp only[dA]at h3
  cases hz:(fun x=>x==l) (v.getD i 0)with
  |false=>
   dsimp only at hz
   rw[hz]at h3
   have e:=MR l v i
   rw[aB (by omega) (by omega),Int.toNat_natCast]at e
   refine⟨_,_,_,_,_,_,e, ?_,by simp,.inl ⟨rfl,i+1,⟨by omega,by simpa using h3⟩,by omega,rfl,rfl,rfl⟩⟩
   simp only[hz,Bool.not_false,Bool.true_and,rpS,Bool.and_true,Bool.and_eq_true,decide_eq_true_eq]
   omega
  |true=>
   dsimp only at hz
   rw[hz]at h3
   simp only[cond_true]at h3
   have e:=MQ l v i
   rw[Int.toNat_natCast]at e
   refine⟨_,_,_,_,_,_,e, ?_,by simp,.inr (.inr ⟨by simp,by simp, ?_, ?_⟩)⟩
   ·simp only[hz,Bool.true_and,rpS,Bool.and_true,Bool.and_eq_true,decide_eq_true_eq]
    omega
   ·rw[←h3];rfl
   ·rw[←h3];rfl
 ·have hz:v.length-i=0:=by omega
  rw[hz]at h3
  simp only[dA]at h3
  exact⟨_,_,_,_,_,_,MS l v i,by simp;omega,by simp,.inr (.inl ⟨rfl,by rw[←h3];rfl,by rw[←h3];rfl⟩)⟩
def AU:aN:=fun args h=>
 match args,h with
 |[.c (.sl 0 0 n 1 none),.c (.fn 162 [.ptr 1 0 0 0])],[.live (.ints .i64 v),.live (.ints .i64 [l])]=>
  some (.c (.int .i64 (cR (fun x=>x==l) v)),[.live (.ints .i64 v),.live (.ints .i64 [l])],[decide (v.length≤274877906944),decide (v.length=n)])
 |_,_=>none
theorem O4 (l:Int) (v:List Int):aD tt (a9 T97) ([(0,⟨a8 eU 0,jI l v 0,.normal,GN l v⟩)]) 100 eU [.c (.sl 0 0 v.length 1 none),.c (.fn 162 [.ptr 1 0 0 0])] [.live (.ints .i64 v),.live (.ints .i64 [l])] []=
  some ⟨.c (.int .i64 (-1)),[.live (.ints .i64 v),.live (.ints .i64 [l])],true,[jI l v 0=jI l v 0]⟩:=by kernel_rfl
theorem O7 (l:Int) (v:List Int) (j:Nat):aD tt (a9 T97) ([(0,⟨a8 eU 0,jI l v 0,.ret,GT l v j⟩)]) 100 eU [.c (.sl 0 0 v.length 1 none),.c (.fn 162 [.ptr 1 0 0 0])] [.live (.ints .i64 v),.live (.ints .i64 [l])] []=
  some ⟨.c (.int .i64 (↑j:Int)),[.live (.ints .i64 v),.live (.ints .i64 [l])],true,[jI l v 0=jI l v 0]⟩:=by kernel_rfl
theorem X9:aP Tryz.prog 176 AU:=by
 intro args h res h' o he ho
 unfold AU at he
 split at he
 case h_2=>cases he
 rename_i n v l
 simp only[Option.some.injEq,Prod.mk.injEq]at he
 obtain⟨rfl,rfl,rfl⟩:=he
 simp only[List.mem_cons,List.not_mem_nil,or_false,forall_eq_or_imp,forall_eq,decide_eq_true_eq]at ho
 obtain⟨o1,o2⟩:=ho
 subst o2
 have g:=WN l v o1
 unfold cR
 cases hx:dQ (fun x=>x==l) v with
 |none=>
  rw[hx]at g
  exact mo (fn:=eU) t97 (O4 l v) rfl (hlc:=(fun cc hc=>aI.cons (c:=cc) (by cases hc;kernel_rfl) (by cases hc;exact g) aI.nil))
 |some j=>
  rw[hx]at g
  exact mo (fn:=eU) t97 (O7 l v j) rfl (hlc:=(fun cc hc=>aI.cons (c:=cc) (by cases hc;kernel_rfl) (by cases hc;exact g) aI.nil))
noncomputable def T98:List bD:=[⟨176,[0,1],AU⟩]++T97
theorem e98:a6 Tryz.prog T98:=by
 refine a6.append ?_ e97
 intro e he
 simp only[List.mem_cons,List.not_mem_nil,or_false]at he
 subst he;exact X9
theorem t98:bJ Tryz.prog (a9 T98):=aM e98
noncomputable abbrev fM:=Tryz.f154
noncomputable def lH (l:Int) (n:Nat) (v:List Int) (i j:Int):St:=
 aY fM.ntmps [(0,.c (.sl 0 0 n 1 none)),(1,.c (.fn 162 [.ptr 1 0 0 0])),(5,.c (.int .i64 i)),(6,.c (.int .i64 j))]
  [.live (.ints .i64 v),.live (.ints .i64 [l])]
noncomputable def D6 (l:Int) (n:Nat) (v:List Int) (i:Int):St:=
 aY fM.ntmps [(0,.c (.sl 0 0 n 1 none)),(5,.c (.int .i64 i))]
  [.live (.ints .i64 v),.live (.ints .i64 [l])]
theorem MK (l:Int) (n:Nat) (v:List Int) (i j:Int):aC 2 (a8 fM 0) (aA fM 0) (aG tt (a9 T98) ([]) 2 100 (a0 0 (a5 fM)) (lH l n v i j) [(0,true),(0,true)])=
  some (.normal,(decide (j<(↑n:Int))&&(decide (0≤j)&&(decide (j<(↑n:Int))&&(decide (j.toNat<v.length)&&((!v.getD j.toNat 0==l)&&(decide (0≤i)&&(decide (i<(↑n:Int))&&((decide (i.toNat<v.length))&&true)))))))),[],lH l n (v.set i.toNat (v.getD j.toNat 0)) (IntKind.i64.wrap (i+1)) (IntKind.i64.wrap (j+1))):=by kernel_rfl
theorem ML (l:Int) (n:Nat) (v:List Int) (i j:Int):aC 2 (a8 fM 0) (aA fM 0) (aG tt (a9 T98) ([]) 2 100 (a0 0 (a5 fM)) (lH l n v i j) [(0,true),(0,false)])=
  some (.normal,(decide (j<(↑n:Int))&&(decide (0≤j)&&(decide (j<(↑n:Int))&&(decide (j.toNat<v.length)&&((!!v.getD j.toNat 0==l)&&true))))),[],lH l n (v) (i) (IntKind.i64.wrap (j+1))):=by kernel_rfl
theorem MM (l:Int) (n:Nat) (v:List Int) (i j:Int):aC 2 (a8 fM 0) (aA fM 0) (aG tt (a9 T98) ([]) 2 100 (a0 0 (a5 fM)) (lH l n v i j) [(0,false)])=
  some (.exit 0,((!decide (j<(↑n:Int)))&&true),[],D6 l n (v) (i)):=by kernel_rfl
theorem O1 (l:Int) (n:Nat) (v:List Int):aD tt (a9 T98) ([]) 100 fM [.c (.sl 0 0 n 1 none),.c (.fn 162 [.ptr 1 0 0 0])] [.live (.ints .i64 v),.live (.ints .i64 [l])] [(0,true)]=
  some ⟨.c (.sl 0 0 n 1 none),[.live (.ints .i64 v),.live (.ints .i64 [l])],(decide (v.length≤274877906944)&&(decide (v.length=n)&&((cR (fun x=>x==l) v== -1)&&true))),[]⟩:=by kernel_rfl
theorem O0 (l:Int) (n:Nat) (v v':List Int) (i:Int):aD tt (a9 T98) ([(0,⟨a8 fM 0,lH l n v (cR (fun x=>x==l) v) (IntKind.i64.wrap (cR (fun x=>x==l) v+1)),.normal,D6 l n v' i⟩)]) 100 fM [.c (.sl 0 0 n 1 none),.c (.fn 162 [.ptr 1 0 0 0])] [.live (.ints .i64 v),.live (.ints .i64 [l])] [(0,false)]=
  some ⟨.c (.sl 0 0 i.toNat 1 none),[.live (.ints .i64 (List.take i.toNat v'++(List.replicate (n-i.toNat) 0++List.drop (i.toNat+(n-i.toNat)) v'))),.live (.ints .i64 [l])],(decide (v.length≤274877906944)&&(decide (v.length=n)&&((!cR (fun x=>x==l) v== -1)&&(decide (0≤i)&&(decide (i≤(↑n:Int))&&(decide (i.toNat+(n-i.toNat)≤v'.length)&&(decide (0≤i)&&((decide (i≤(↑n:Int)))&&true)))))))),[lH l n v (cR (fun x=>x==l) v) (IntKind.i64.wrap (cR (fun x=>x==l) v+1))=lH l n v (cR (fun x=>x==l) v) (IntKind.i64.wrap (cR (fun x=>x==l) v+1))]⟩:=by kernel_rfl
theorem WL (l:Int) (v:List Int) (i0:Nat) (hl:v.length≤274877906944) (h0:dQ (fun x=>x==l) v=some i0):
  aS Tryz.prog 2 (.block 0 (.loop (a0 0 (a5 fM)))) (lH l v.length v i0 (i0+1:Nat)) fun e t=>e=.normal∧
   t=D6 l v.length (bL (mU (fun x=>x==l) (i0+1)) (v.length-(i0+1)) 0 (v,i0)).1 (bL (mU (fun x=>x==l) (i0+1)) (v.length-(i0+1)) 0 (v,i0)).2:=by
 obtain⟨g1,g2⟩:=kS h0
 refine aS.count hT t98 bK (v.length-(i0+1)) (AM (fun x=>x==l) v (i0+1)) (fun t s=>lH l v.length s.1 s.2 (i0+1+t:Nat)) (fun s=>D6 l v.length s.1 s.2) (mU (fun x=>x==l) (i0+1)) (a8 fM 0) (aA fM 0)
  (fun _ _=>[]) (fun _ _ _ _=>aI.nil) (fun t s ht h=>⟨iI h (by omega), ?_⟩) (fun s h=> ?_) (v,i0) g2
 ·have hn:=iI h (by omega)
  obtain⟨d1,d2,d3,d4⟩:=h
  have hx:=d3 (i0+1+t) (Nat.le_refl _)
  unfold mU
  cases hq:s.1.getD (i0+1+t) 0==l with
  |true=>
   have e:=ML l v.length s.1 s.2 (i0+1+t:Nat)
   rw[aB (by omega) (by omega),Int.toNat_natCast]at e
   dsimp only
   rw[hq]
   refine⟨_,_,⟨_,_,e, ?_,by simp⟩⟩
   simp only[hq,Bool.not_true,Bool.not_false,Bool.true_and,rpS,Bool.and_true,Bool.and_eq_true,decide_eq_true_eq]
   omega
  |false=>
   have e:=MK l v.length s.1 s.2 (i0+1+t:Nat)
   rw[aB (i:=((i0+1+t:Nat):Int)+1) (by omega) (by omega),aB (i:=(s.2:Int)+1) (by omega) (by omega),Int.toNat_natCast,Int.toNat_natCast]at e
   dsimp only
   rw[hq]
   refine⟨_,_,⟨_,_,e, ?_,by simp⟩⟩
   simp only[hq,Bool.not_false,Bool.true_and,rpS,Bool.and_true,Bool.and_eq_true,decide_eq_true_eq]
   omega
 ·rw[show i0+1+(v.length-(i0+1))=v.length from by omega]
  exact⟨_,_,⟨_,_,MM l v.length s.1 s.2 v.length,by simp,by simp⟩⟩
def AR:aN:=fun args h=>
 match args,h with
 |[.c (.sl 0 0 n 1 none),.c (.fn 162 [.ptr 1 0 0 0])],[.live (.ints .i64 v),.live (.ints .i64 [l])]=>
  some (.c (.sl 0 0 (v.filter fun x=> !(x==l)).length 1 none),[.live (.ints .i64 (v.filter fun x=> !(x==l))),.live (.ints .i64 [l])],[decide (v.length≤274877906944),decide (v.length=n)])
 |_,_=>none
theorem X7:aP Tryz.prog 154 AR:=by
 intro args h res h' o he ho
 unfold AR at he
 split at he
 case h_2=>cases he
 rename_i n v l
 simp only[Option.some.injEq,Prod.mk.injEq]at he
 obtain⟨rfl,rfl,rfl⟩:=he
 simp only[List.mem_cons,List.not_mem_nil,or_false,forall_eq_or_imp,forall_eq,decide_eq_true_eq]at ho
 obtain⟨o1,o2⟩:=ho
 subst o2
 cases hx:dQ (fun x=>x==l) v with
 |none=>
  have hL:cR (fun x=>x==l) v= -1:=by unfold cR;rw[hx]
  have hf:(v.filter fun x=> !(x==l))=v:=by
   have:=gL (q:=(fun x=>x==l)) (v:=v) v.length (Nat.le_refl _) (fun k hk=>j8 hx k (by omega) (by omega))
   rw[List.take_length]at this;exact this
  rw[hf]
  exact mo (fn:=fM) t98 (O1 l v.length v) (by rw[hL];simp[o1])
 |some i0=>
  have hL:cR (fun x=>x==l) v=i0:=by unfold cR;rw[hx]
  obtain⟨g1,g2⟩:=kS hx
  have g:=WL l v i0 o1 hx
  have fin:=bB (step:=mU (fun x=>x==l) (i0+1)) (AM (fun x=>x==l) v (i0+1)) (v.length-(i0+1)) (v,i0) g2 fun t s ht h=>iI h (by omega)
  generalize bL (mU (fun x=>x==l) (i0+1)) (v.length-(i0+1)) 0 (v,i0)=s at g fin
  obtain⟨d1,d2,d3,d4⟩:=fin
  rw[show i0+1+(v.length-(i0+1))=v.length from by omega]at d2 d4
  rw[List.take_length]at d4
  have hlen:(v.filter fun x=> !(x==l)).length=s.2:=by rw[←d4,List.length_take];omega
  have e:=O0 l v.length v s.1 s.2
  rw[hL]at e
  have hw:IntKind.i64.wrap ((i0:Int)+1)=(i0+1:Nat):=by rw[aB (by omega) (by omega)];rfl
  rw[hw,Int.toNat_natCast]at e
  have mm:=mo (f:=154) (fn:=fM) t98 e (by
    have h3:(((i0:Int))== -1)=false:=by
     rw[beq_eq_false_iff_ne];omega
    simp only[h3,o1,Bool.not_false,Bool.true_and,rpS,Bool.and_true,Bool.and_eq_true,decide_eq_true_eq,true_and,and_true]
    omega) (hlc:=(fun cc hc=>aI.cons (c:=cc) (by cases hc;kernel_rfl) (by cases hc;exact g) aI.nil))
  rw[hlen]
  refine mm.slots ⟨?_,c6.refl _,trivial⟩
  have h6:(List.take s.2 s.1++(List.replicate (v.length-s.2) 0++List.drop (s.2+(v.length-s.2)) s.1)).take s.2=v.filter fun x=> !(x==l):=by
   rw[List.take_append_of_le_length (by rw[List.length_take];omega),List.take_take,Nat.min_self];exact d4
  rw[←h6]
  exact c6.take _ _ _
end
end Go.Proofs.YthapjdpkelihiaaGreat.Am
