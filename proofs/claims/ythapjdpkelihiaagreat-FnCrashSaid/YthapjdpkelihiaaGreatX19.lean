/- DERIVED. Part 19 of the proof: C90, C91. No statement of the program is proved here. -/
import Derived.Test.YthapjdpkelihiaaGreatX18
set_option linter.unusedSimpArgs false
set_option linter.unusedVariables false
set_option linter.unusedSectionVars false
section
namespace Go.Proofs.YthapjdpkelihiaaGreat.Am
noncomputable def T87:List Entry:=[⟨21,[],nm (vwM FFredo)⟩,⟨19,[],nm (vwM FFshard)⟩,⟨11,[],nm (vwM FFlose)⟩,⟨13,[],nm (vwM FFloseS)⟩,⟨20,[],nm (vwM FFkread)⟩,⟨18,[],nm (vwM FFbeg)⟩,⟨17,[],nm (vwM FFbegS)⟩,⟨22,[],nm (vwM FFsnew)⟩,⟨29,[],nm (vwM FFTA)⟩,⟨27,[],nm (vwM FFTS)⟩]++T86
theorem e87:EntriesOk Tryz.prog T87:=by
 refine EntriesOk.append ?_ e86
 intro e he
 simp only[List.mem_cons,List.not_mem_nil,or_false]at he
 rcases he with rfl|rfl|rfl|rfl|rfl|rfl|rfl|rfl|rfl|rfl
 ·exact ModelN.ok (ModelN.vw m16)
 ·exact ModelN.ok (ModelN.vw m26)
 ·exact ModelN.ok (ModelN.vw m45)
 ·exact ModelN.ok (ModelN.vw m97)
 ·exact ModelN.ok (ModelN.vw m20)
 ·exact ModelN.ok (ModelN.vw m36)
 ·exact ModelN.ok (ModelN.vw m35)
 ·exact ModelN.ok (ModelN.vw mSN)
 ·exact ModelN.ok (ModelN.vw mTA)
 ·exact ModelN.ok (ModelN.vw mTS)
theorem t87:CtOk Tryz.prog (ctOf T87):=ctOf_ok e87
end Go.Proofs.YthapjdpkelihiaaGreat.Am
end
section
namespace Go.Proofs.YthapjdpkelihiaaGreat.Am
noncomputable abbrev fCR:=Tryz.f4
noncomputable def ICR (k:Int) (d:List Int) (x y:PK) (n i:Int):St:=stOf fCR.ntmps [(6,.c (.int .i64 k)),(7,.c (.view none (.ints .i64 d) d.length 1 none)),(10,.c (.ptr 0 0 0 0)),(12,.c (.ptr 1 0 0 0)),(13,.c (.int .i64 n)),(14,.c (.int .i64 i))] [.live (.cells x.vcells),.live (.cells y.vcells)]
noncomputable def XCR (k:Int) (d:List Int) (x y:PK):St:=stOf fCR.ntmps [(6,.c (.int .i64 k)),(7,.c (.view none (.ints .i64 d) d.length 1 none)),(10,.c (.ptr 0 0 0 0)),(12,.c (.ptr 1 0 0 0))] [.live (.cells x.vcells),.live (.cells y.vcells)]
theorem rCR_2 (k:Int) (d:List Int) (x y:PK) (n i:Int):roundR 0 (liveH fCR 0) (liveB' fCR 0) (evalC tt (ctOf T87) ([]) 0 100 (bodyAt 0 (codeOf fCR)) (ICR k d x y n i) [(0,true),(0,true),(0,false)])=
  some (.normal,(decide (i<8)&&((n.tmod 2==1)&&(decide (y.7.length≤274877906944)&&(decide ((shardK y i).a.length=(shardK y i).a.length)&&(decide ((shardK y i).b.length=(shardK y i).b.length)&&(decide ((shardK y i).c.length=(shardK y i).c.length)&&(decide ((shardK y i).d.length=(shardK y i).d.length)&&((!!shardB y i)&&true)))))))),[],ICR k d x (shardK (y) (i)) (IntKind.i64.wrap (n.tdiv 2)) (IntKind.i64.wrap (i+1))):=by kernel_rfl
theorem rCR_3 (k:Int) (d:List Int) (x y:PK) (n i:Int):roundR 0 (liveH fCR 0) (liveB' fCR 0) (evalC tt (ctOf T87) ([]) 0 100 (bodyAt 0 (codeOf fCR)) (ICR k d x y n i) [(0,true),(0,false)])=
  some (.normal,(decide (i<8)&&((!n.tmod 2==1)&&true)),[],ICR k d x y (IntKind.i64.wrap (n.tdiv 2)) (IntKind.i64.wrap (i+1))):=by kernel_rfl
theorem rCR_4 (k:Int) (d:List Int) (x y:PK) (n i:Int):roundR 0 (liveH fCR 0) (liveB' fCR 0) (evalC tt (ctOf T87) ([]) 0 100 (bodyAt 0 (codeOf fCR)) (ICR k d x y n i) [(0,false)])=
  some (.exit 0,((!decide (i<8))&&true),[],XCR k d x y):=by kernel_rfl
theorem lCR (k:Int) (d:List Int) (x y:PK) (n:Nat) (hn:n≤1048576) (h:y.ok=true) (ho:y.on=true):
  Good Tryz.prog 0 (.block 0 (.loop (bodyAt 0 (codeOf fCR)))) (ICR k d x y n 0) fun e t=>e=.normal∧t=XCR k d x (runN stepC 8 0 (y,n)).1:=by
 refine Good.count hT t87 hmix (m:=0) (id:=0) (body:=bodyAt 0 (codeOf fCR)) (β:=PK×Nat) 8 (fun _ z=>Same y z.1∧z.2≤1048576) (fun i z=>ICR k d x z.1 z.2 i) (fun z=>XCR k d x z.1) stepC (liveH fCR 0) (liveB' fCR 0) (fun _ _=>[]) (fun _ _ _ _=>LcOk.nil) (fun i z hi S=> ?_) (fun z _=>⟨_,_,⟨_,_,rCR_4 k d x z.1 z.2 (8:Nat),by rfl,by simp⟩⟩) (y,n) ⟨Same.rfl' h ho,hn⟩
 obtain⟨S,hz⟩:=S
 have hb:bet (i:Int) 0 7=true:=bet_iff.2 ⟨by omega,by omega⟩
 have t2:(z.2:Int).tmod 2=((z.2%2:Nat):Int):=by rw[tmod_eq (by omega)];omega
 have d2:IntKind.i64.wrap ((z.2:Int).tdiv 2)=((z.2/2:Nat):Int):=by rw[tdiv_eq (by omega),wrap_small (by omega) (by omega)];omega
 have hd:=(ok_dlen S.ok).1
 have hd:z.1.7.length≤4:=hd
 cases c:z.2%2==1 with
 |true=>
  have c':((z.2:Int).tmod 2==1)=true:=by rw[t2];have:=beq_iff_eq.1 c;rw[this];rfl
  have es:stepC i z=(shR z.1 (i:Int),z.2/2):=by unfold stepC;rw[c,cond_true]
  rw[es]
  refine⟨⟨S.shR hb,by show z.2/2≤1048576;omega⟩, ?_⟩
  have e:=rCR_2 k d x z.1 z.2 i
  rw[d2,wrap_small (by omega) (by omega),show shardK z.1 (i:Int)=shR z.1 (i:Int)from shardK_on S.ok S.on hb]at e
  refine⟨_,_,⟨_,_,e, ?_,by simp⟩⟩
  simp only[c',shardB_on S.ok S.on hb,decide_true,bS]
  omega
 |false=>
  have c':((z.2:Int).tmod 2==1)=false:=by
   rw[t2]
   have:=beq_eq_false_iff_ne.1 c
   exact beq_eq_false_iff_ne.2 (by omega)
  have es:stepC i z=(z.1,z.2/2):=by unfold stepC;rw[c,cond_false]
  rw[es]
  refine⟨⟨S,by show z.2/2≤1048576;omega⟩, ?_⟩
  have e:=rCR_3 k d x z.1 z.2 i
  rw[d2,wrap_small (by omega) (by omega)]at e
  refine⟨_,_,⟨_,_,e, ?_,by simp⟩⟩
  simp only[c',bS]
  omega
def crX (b:List Int):PK:=begK (dkQ b).1 (dkK b) (dkD b)
def crO (b:List Int):Bool:=begB (dkQ b).1 (dkK b) (dkD b)
def crY (b m:List Int):PK:=(runN stepC 8 0 (crX b,m.length)).1
def yCR_p1 (b m:List Int) (qz:Bool):Bool:=((!decide ((↑b.length:Int)>1048576))&&((!decide ((↑b.length:Int)>1048576))&&((!decide ((↑b.length:Int)>1048576))&&qz)))
def yCR_p2 (b m:List Int) (qz:Bool):Bool:=((!bif decide ((↑b.length:Int)>1048576)then true else decide ((↑m.length:Int)>1048576))&&((byteB b)&&((decide ((dkQ b).1.2.length≤274877906944))&&((decide ((dkQ b).1.7.length≤274877906944))&&((decide ((dkD b).length≤274877906944))&&((decide ((crX b).a.length=(crX b).a.length))&&((decide ((crX b).b.length=(crX b).b.length))&&((decide ((crX b).c.length=(crX b).c.length))&&((decide ((crX b).d.length=(crX b).d.length))&&((decide ((dkQ b).1.7.length≤274877906944))&&((decide ((dkD b).length≤274877906944))&&((decide ((crX b).a.length=(crX b).a.length))&&((decide ((crX b).b.length=(crX b).b.length))&&((decide ((crX b).c.length=(crX b).c.length))&&((decide ((crX b).d.length=(crX b).d.length))&&qz)))))))))))))))
def yCR_p3 (b m:List Int) (qz:Bool):Bool:=((!!crO b==crO b)&&((!!crO b==crO b)&&((!!crO b==crO b)&&((decide ((crX b).a.length≤274877906944))&&((decide ((crX b).b.length≤274877906944))&&((decide ((crX b).c.length≤274877906944))&&((decide ((crX b).d.length≤274877906944))&&((kpE (crX b) (crX b))&&((!!crO b==crO b)&&((!bif !crO b==crO b then true else false)&&((!bif !crO b==crO b then true else false)&&qz)))))))))))
def yCR_p4 (b m:List Int) (qz:Bool):Bool:=((!bif bif !crO b==crO b then true else false then true else !crO b)&&((decide ((crY b m).d.length≤274877906944))&&((decide ((krD (crY b m).k (crY b m).a (crY b m).b (crY b m).c (crY b m).on (crY b m).kd (crY b m).d (crY b m).vs).length=(krD (crY b m).k (crY b m).a (crY b m).b (crY b m).c (crY b m).on (crY b m).kd (crY b m).d (crY b m).vs).length))&&((decide ((crY b m).d.length≤274877906944))&&((decide ((redoK (crY b m)).a.length=(redoK (crY b m)).a.length))&&((decide ((redoK (crY b m)).b.length=(redoK (crY b m)).b.length))&&((decide ((redoK (crY b m)).c.length=(redoK (crY b m)).c.length))&&((decide ((redoK (crY b m)).d.length=(redoK (crY b m)).d.length))&&((decide ((dkD b).length≤274877906944))&&((decide ((snK (dkK b) (dkD b) (crX b).vs).a.length=(snK (dkK b) (dkD b) (crX b).vs).a.length))&&((decide ((snK (dkK b) (dkD b) (crX b).vs).b.length=(snK (dkK b) (dkD b) (crX b).vs).b.length))&&((decide ((snK (dkK b) (dkD b) (crX b).vs).c.length=(snK (dkK b) (dkD b) (crX b).vs).c.length))&&qz))))))))))))
def yCR_p5 (b m:List Int) (qz:Bool):Bool:=((krB (crY b m).k (crY b m).a (crY b m).b (crY b m).c (crY b m).on (crY b m).kd (crY b m).d (crY b m).vs)&&((krB (crY b m).k (crY b m).a (crY b m).b (crY b m).c (crY b m).on (crY b m).kd (crY b m).d (crY b m).vs)&&((krB (crY b m).k (crY b m).a (crY b m).b (crY b m).c (crY b m).on (crY b m).kd (crY b m).d (crY b m).vs)&&((decide ((krD (crY b m).k (crY b m).a (crY b m).b (crY b m).c (crY b m).on (crY b m).kd (crY b m).d (crY b m).vs).length≤274877906944))&&((lkI (krD (crY b m).k (crY b m).a (crY b m).b (crY b m).c (crY b m).on (crY b m).kd (crY b m).d (crY b m).vs) (dkD b))&&((bif krB (crY b m).k (crY b m).a (crY b m).b (crY b m).c (crY b m).on (crY b m).kd (crY b m).d (crY b m).vs then true else false)&&((bif krB (crY b m).k (crY b m).a (crY b m).b (crY b m).c (crY b m).on (crY b m).kd (crY b m).d (crY b m).vs then true else false)&&((bif krB (crY b m).k (crY b m).a (crY b m).b (crY b m).c (crY b m).on (crY b m).kd (crY b m).d (crY b m).vs then true else false)&&qz))))))))
def yCR_p6 (b m:List Int) (qz:Bool):Bool:=((bif bif krB (crY b m).k (crY b m).a (crY b m).b (crY b m).c (crY b m).on (crY b m).kd (crY b m).d (crY b m).vs then true else false then !(redoK (crY b m)).on else false)&&qz)
noncomputable abbrev yCRE (b m:List Int) (lcv:List (Nat×LC)) (p:Path):Option FOut:=evalF tt (ctOf T87) (lcv) 100 Tryz.f4 [.c (.view none (.ints .u8 b) b.length 1 none),.c (.view none (.ints .u8 m) m.length 1 none)] [] p
theorem yCR_1 (b m:List Int) (lcv:List (Nat×LC)):yCRE b m lcv [(0,true)]=
  some ⟨.c (.bool true),[],(decide ((↑b.length:Int)>1048576)&&(decide ((↑b.length:Int)>1048576)&&(decide ((↑b.length:Int)>1048576)&&((decide ((↑b.length:Int)>1048576))&&true)))),[]⟩:=by kernel_rfl
theorem yCR_2 (b m:List Int) (lcv:List (Nat×LC)):yCRE b m lcv [(0,false),(0,true)]=
  some ⟨.c (.bool true),[],(yCR_p1 b m ((bif decide ((↑b.length:Int)>1048576)then true else decide ((↑m.length:Int)>1048576))&&true)),[]⟩:=by kernel_rfl
theorem yCR_4 (b m:List Int) (lcv:List (Nat×LC)):yCRE b m lcv [(0,false),(0,false),(0,false),(0,false),(0,true),(0,true)]=
  some ⟨.c (.bool (bif crO b==crO b then true else false)),[],(yCR_p1 b m (yCR_p2 b m (yCR_p3 b m ((bif bif !crO b==crO b then true else false then true else !crO b)&&((crO b==crO b)&&((crO b==crO b)&&((crO b==crO b)&&(decide ((crX b).a.length≤274877906944)&&(decide ((crX b).b.length≤274877906944)&&(decide ((crX b).c.length≤274877906944)&&(decide ((crX b).d.length≤274877906944)&&((kpE (crX b) (crX b))&&true)))))))))))),[]⟩:=by kernel_rfl
theorem yCR_5 (b m:List Int):yCRE b m ([(0,⟨liveH fCR 0,ICR (dkK b) (dkD b) (crX b) (crX b) m.length 0,.normal,XCR (dkK b) (dkD b) (crX b) (crY b m)⟩)]) [(0,false),(0,false),(0,false),(0,false),(0,false),(0,true),(0,true),(0,true),(0,true),(0,true)]=
  some ⟨.c (.bool (bif bif bif bif bif krB (crY b m).k (crY b m).a (crY b m).b (crY b m).c (crY b m).on (crY b m).kd (crY b m).d (crY b m).vs then true else false then !(redoK (crY b m)).on else false then snB (dkK b) (dkD b) (crX b).vs else false then true else false then kokL (redoK (crY b m)).k (redoK (crY b m)).a (redoK (crY b m)).b (redoK (crY b m)).c (redoK (crY b m)).on (redoK (crY b m)).kd (redoK (crY b m)).d (redoK (crY b m)).vs else false)),[],(yCR_p1 b m (yCR_p2 b m (yCR_p3 b m (yCR_p4 b m (yCR_p5 b m (yCR_p6 b m ((bif bif bif krB (crY b m).k (crY b m).a (crY b m).b (crY b m).c (crY b m).on (crY b m).kd (crY b m).d (crY b m).vs then true else false then !(redoK (crY b m)).on else false then snB (dkK b) (dkD b) (crX b).vs else false)&&((bif bif bif krB (crY b m).k (crY b m).a (crY b m).b (crY b m).c (crY b m).on (crY b m).kd (crY b m).d (crY b m).vs then true else false then !(redoK (crY b m)).on else false then snB (dkK b) (dkD b) (crX b).vs else false)&&((bif bif bif krB (crY b m).k (crY b m).a (crY b m).b (crY b m).c (crY b m).on (crY b m).kd (crY b m).d (crY b m).vs then true else false then !(redoK (crY b m)).on else false then snB (dkK b) (dkD b) (crX b).vs else false)&&((bif bif bif krB (crY b m).k (crY b m).a (crY b m).b (crY b m).c (crY b m).on (crY b m).kd (crY b m).d (crY b m).vs then true else false then !(redoK (crY b m)).on else false then snB (dkK b) (dkD b) (crX b).vs else false)&&(((redoK (crY b m)).k==(snK (dkK b) (dkD b) (crX b).vs).k)&&(decide ((redoK (crY b m)).a.length≤274877906944)&&(lkI (redoK (crY b m)).a (snK (dkK b) (dkD b) (crX b).vs).a&&(decide ((redoK (crY b m)).b.length≤274877906944)&&(lkI (redoK (crY b m)).b (snK (dkK b) (dkD b) (crX b).vs).b&&(decide ((redoK (crY b m)).c.length≤274877906944)&&(lkB (redoK (crY b m)).c (snK (dkK b) (dkD b) (crX b).vs).c&&((bif bif bif bif krB (crY b m).k (crY b m).a (crY b m).b (crY b m).c (crY b m).on (crY b m).kd (crY b m).d (crY b m).vs then true else false then !(redoK (crY b m)).on else false then snB (dkK b) (dkD b) (crX b).vs else false then true else false)&&((bif bif bif bif krB (crY b m).k (crY b m).a (crY b m).b (crY b m).c (crY b m).on (crY b m).kd (crY b m).d (crY b m).vs then true else false then !(redoK (crY b m)).on else false then snB (dkK b) (dkD b) (crX b).vs else false then true else false)&&((decide ((redoK (crY b m)).d.length≤274877906944))&&true)))))))))))))))))))),[ICR (dkK b) (dkD b) (crX b) (crX b) m.length 0=ICR (dkK b) (dkD b) (crX b) (crX b) m.length 0]⟩:=by kernel_rfl
theorem lawCR (b m:List Int) (o1:byteB b=true) (o2:byteB m=true):Meets Tryz.prog 4 [.c (.view none (.ints .u8 b) b.length 1 none),.c (.view none (.ints .u8 m) m.length 1 none)] [] (.c (.bool true)) []:=by
 cases c1:decide ((b.length:Int)>1048576)with
 |true=>exact meets_of t87 (by kernel_rfl) (by kernel_rfl) (yCR_1 b m []) (by simp only[yCR_p1,yCR_p2,yCR_p3,yCR_p4,yCR_p5,yCR_p6,c1,bS]) (by simp) (fun cc _=>LcOk.nil)
 |false=>
  cases c2:decide ((m.length:Int)>1048576)with
  |true=>exact meets_of t87 (by kernel_rfl) (by kernel_rfl) (yCR_2 b m []) (by simp only[yCR_p1,yCR_p2,yCR_p3,yCR_p4,yCR_p5,yCR_p6,c1,c2,bS]) (by simp) (fun cc _=>LcOk.nil)
  |false=>
   obtain⟨z1,z2,z3⟩:=dkQ_sz b
   have hm:m.length≤1048576:=by have:=of_decide_eq_false c2;omega
   obtain⟨g1,g2,g3,g4⟩:=beg_szs (dkQ b).1 (dkK b) z3
   have a1:decide ((dkQ b).1.2.length≤274877906944)=true:=decide_eq_true (Nat.le_trans z1 (by omega))
   have a2:decide ((dkQ b).1.7.length≤274877906944)=true:=decide_eq_true (Nat.le_trans z2 (by omega))
   have a3:decide ((dkD b).length≤274877906944)=true:=decide_eq_true (by omega)
   have b1:decide ((crX b).a.length≤274877906944)=true:=decide_eq_true (Nat.le_trans g1 (by omega))
   have b2:decide ((crX b).b.length≤274877906944)=true:=decide_eq_true (Nat.le_trans g2 (by omega))
   have b3:decide ((crX b).c.length≤274877906944)=true:=decide_eq_true (Nat.le_trans g3 (by omega))
   have b4:decide ((crX b).d.length≤274877906944)=true:=decide_eq_true (Nat.le_trans g4 (by omega))
   cases ho:crO b with
   |false=>
    have e:=yCR_4 b m []
    simp only[beq_self_eq_true,cond_true]at e
    exact meets_of t87 (by kernel_rfl) (by kernel_rfl) e (by simp only[yCR_p1,yCR_p2,yCR_p3,yCR_p4,yCR_p5,yCR_p6,c1,c2,o1,a1,a2,a3,b1,b2,b3,b4,kpE_refl,beq_self_eq_true,decide_true,ho,bS]) (by simp) (fun cc _=>LcOk.nil)
   |true=>
    obtain⟨f1,-,-,-,-,-,-,-,-,f10⟩:=beg_facts (x:=(dkQ b).1) (kind:=dkK b) (e:=dkD b) ho
    obtain⟨-,-,-,-,-,h6⟩:=begB_spec (x:=(dkQ b).1) (kind:=dkK b) (e:=dkD b) ho
    have hok:(crX b).ok=true:=f1
    have hon:(crX b).on=true:=f10
    have hkd:(crX b).kd=dkK b:=by show(begK (dkQ b).1 (dkK b) (dkD b)).kd=_;rw[h6]
    have hd:(crX b).d=dkD b:=by show(begK (dkQ b).1 (dkK b) (dkD b)).d=_;rw[h6]
    have S:Same (crX b) (crY b m):=crash_inv m.length hok hon 8 (Nat.le_refl 8)
    obtain⟨s1,s2,s3,s4,s5,s6⟩:=crash_facts S
    rw[hkd,hd]at s4 s5
    rw[hd]at s2
    rw[s4]at s3 s6
    have d4:=(ok_dlen S.ok).1
    obtain⟨r1,r2,r3,r4⟩:=ok_dlen s6
    have p1:krB (crY b m).k (crY b m).a (crY b m).b (crY b m).c (crY b m).on (crY b m).kd (crY b m).d (crY b m).vs=true:=s1
    have p2:krD (crY b m).k (crY b m).a (crY b m).b (crY b m).c (crY b m).on (crY b m).kd (crY b m).d (crY b m).vs=dkD b:=s2
    have p6:kokL (snK (dkK b) (dkD b) (crX b).vs).k (snK (dkK b) (dkD b) (crX b).vs).a (snK (dkK b) (dkD b) (crX b).vs).b (snK (dkK b) (dkD b) (crX b).vs).c (snK (dkK b) (dkD b) (crX b).vs).on (snK (dkK b) (dkD b) (crX b).vs).kd (snK (dkK b) (dkD b) (crX b).vs).d (snK (dkK b) (dkD b) (crX b).vs).vs=true:=s6
    rw[s3]at p6
    have a4:decide ((crY b m).d.length≤274877906944)=true:=decide_eq_true (Nat.le_trans d4 (by omega))
    have q1:decide ((snK (dkK b) (dkD b) (crX b).vs).a.length≤274877906944)=true:=decide_eq_true (by omega)
    have q2:decide ((snK (dkK b) (dkD b) (crX b).vs).b.length≤274877906944)=true:=decide_eq_true (by omega)
    have q3:decide ((snK (dkK b) (dkD b) (crX b).vs).c.length≤274877906944)=true:=decide_eq_true (by omega)
    have q4:decide ((snK (dkK b) (dkD b) (crX b).vs).d.length≤274877906944)=true:=decide_eq_true (by omega)
    have g:=lCR (dkK b) (dkD b) (crX b) (crX b) m.length hm hok hon
    have e:=yCR_5 b m
    simp only[p1,p2,s4,s3,s5,p6,lkI_refl,lkB_refl,beq_self_eq_true,Bool.not_false,cond_true]at e
    exact meets_of t87 (by kernel_rfl) (by kernel_rfl) e (by simp only[yCR_p1,yCR_p2,yCR_p3,yCR_p4,yCR_p5,yCR_p6,c1,c2,o1,a1,a2,a3,a4,b1,b2,b3,b4,q1,q2,q3,q4,kpE_refl,lkI_refl,lkB_refl,beq_self_eq_true,decide_true,ho,p1,p2,s4,s3,s5,p6,bS]) (by simp) (fun cc hcc=>LcOk.cons (c:=cc) (by cases hcc;kernel_rfl) (by cases hcc;exact g) LcOk.nil)
end Go.Proofs.YthapjdpkelihiaaGreat.Am
end
