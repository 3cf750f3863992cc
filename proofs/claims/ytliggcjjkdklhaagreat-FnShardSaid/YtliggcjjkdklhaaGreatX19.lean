/- DERIVED. The law FnShard, told. No statement of the program is proved here. -/
import Derived.Test.YtliggcjjkdklhaaGreatX18
set_option linter.unusedSimpArgs false
set_option linter.unusedVariables false
set_option linter.unusedSectionVars false
namespace Go.Proofs.YtliggcjjkdklhaaGreat.Am
noncomputable abbrev f5:=Tryz.f5
def sdX (b:List Int):PK:=shardK (dkR b) (dkSh b)
def sdO (b:List Int):Bool:=shardB (dkR b) (dkSh b)
def PK.cells2 (x:PK) (j:Nat):List Cell:=[.int .i64 x.k,.sl j 0 x.a.length 1 none,.sl (j+1) 0 x.b.length 1 none,.sl (j+2) 0 x.c.length 1 none,.bool x.on,.int .i64 x.kd,.sl (j+3) 0 x.d.length 1 none,.int .i64 x.vs]
noncomputable def I5 (x y:PK) (at_ i:Int):St:=stOf f5.ntmps [(3,.c (.ptr 0 0 0 0)),(4,.c (.int .i64 at_)),(7,.c (.ptr 1 0 0 0)),(9,.c (.int .i64 i))] ([.live (.cells x.vcells),.live (.cells (y.cells2 2))]++y.heap)
noncomputable def X5 (x y:PK) (at_:Int):St:=stOf f5.ntmps [(3,.c (.ptr 0 0 0 0)),(4,.c (.int .i64 at_)),(7,.c (.ptr 1 0 0 0))] ([.live (.cells x.vcells),.live (.cells (y.cells2 2))]++y.heap)
theorem r5_4 (x y:PK) (at_ i:Int):roundR 0 (liveH f5 0) (liveB' f5 0) (evalC tt (ctOf T77) ([]) 0 100 (bodyAt 0 (codeOf f5)) (I5 x y at_ i) [(0,true),(0,true),(0,false),(0,false),(0,false)])=
  some (.normal,(decide (i<8)&&((i !=at_)&&((i !=at_)&&((i !=at_)&&((i !=at_)&&((i !=at_)&&(decide (0≤i)&&(decide (i<(↑y.2.length:Int))&&((i !=at_)&&(decide (i.toNat<y.2.length)&&((i !=at_)&&((i !=at_)&&((i !=at_)&&((i !=at_)&&((i !=at_)&&(decide (0≤i)&&(decide (i<(↑x.2.length:Int))&&((i !=at_)&&(decide (i.toNat<x.2.length)&&((i !=at_)&&((i !=at_)&&((!y.2.getD i.toNat 0 !=x.2.getD i.toNat 0)&&((!y.2.getD i.toNat 0 !=x.2.getD i.toNat 0)&&((!y.2.getD i.toNat 0 !=x.2.getD i.toNat 0)&&((!y.2.getD i.toNat 0 !=x.2.getD i.toNat 0)&&((!y.2.getD i.toNat 0 !=x.2.getD i.toNat 0)&&(decide (0≤i)&&(decide (i<(↑y.3.length:Int))&&((!y.2.getD i.toNat 0 !=x.2.getD i.toNat 0)&&(decide (i.toNat<y.3.length)&&((!y.2.getD i.toNat 0 !=x.2.getD i.toNat 0)&&((!y.2.getD i.toNat 0 !=x.2.getD i.toNat 0)&&((!y.2.getD i.toNat 0 !=x.2.getD i.toNat 0)&&((!y.2.getD i.toNat 0 !=x.2.getD i.toNat 0)&&((!y.2.getD i.toNat 0 !=x.2.getD i.toNat 0)&&(decide (0≤i)&&(decide (i<(↑x.3.length:Int))&&((!y.2.getD i.toNat 0 !=x.2.getD i.toNat 0)&&(decide (i.toNat<x.3.length)&&((!y.2.getD i.toNat 0 !=x.2.getD i.toNat 0)&&((i !=at_)&&((i !=at_)&&((!bif y.2.getD i.toNat 0 !=x.2.getD i.toNat 0 then true else y.3.getD i.toNat 0 !=x.3.getD i.toNat 0)&&((!bif y.2.getD i.toNat 0 !=x.2.getD i.toNat 0 then true else y.3.getD i.toNat 0 !=x.3.getD i.toNat 0)&&((!bif y.2.getD i.toNat 0 !=x.2.getD i.toNat 0 then true else y.3.getD i.toNat 0 !=x.3.getD i.toNat 0)&&((!bif y.2.getD i.toNat 0 !=x.2.getD i.toNat 0 then true else y.3.getD i.toNat 0 !=x.3.getD i.toNat 0)&&((!bif y.2.getD i.toNat 0 !=x.2.getD i.toNat 0 then true else y.3.getD i.toNat 0 !=x.3.getD i.toNat 0)&&(decide (0≤i)&&(decide (i<(↑y.4.length:Int))&&((!bif y.2.getD i.toNat 0 !=x.2.getD i.toNat 0 then true else y.3.getD i.toNat 0 !=x.3.getD i.toNat 0)&&(decide (i.toNat<y.4.length)&&((!bif y.2.getD i.toNat 0 !=x.2.getD i.toNat 0 then true else y.3.getD i.toNat 0 !=x.3.getD i.toNat 0)&&((!bif y.2.getD i.toNat 0 !=x.2.getD i.toNat 0 then true else y.3.getD i.toNat 0 !=x.3.getD i.toNat 0)&&((!bif y.2.getD i.toNat 0 !=x.2.getD i.toNat 0 then true else y.3.getD i.toNat 0 !=x.3.getD i.toNat 0)&&((!bif y.2.getD i.toNat 0 !=x.2.getD i.toNat 0 then true else y.3.getD i.toNat 0 !=x.3.getD i.toNat 0)&&((!bif y.2.getD i.toNat 0 !=x.2.getD i.toNat 0 then true else y.3.getD i.toNat 0 !=x.3.getD i.toNat 0)&&(decide (0≤i)&&(decide (i<(↑x.4.length:Int))&&((!bif y.2.getD i.toNat 0 !=x.2.getD i.toNat 0 then true else y.3.getD i.toNat 0 !=x.3.getD i.toNat 0)&&(decide (i.toNat<x.4.length)&&((!bif y.2.getD i.toNat 0 !=x.2.getD i.toNat 0 then true else y.3.getD i.toNat 0 !=x.3.getD i.toNat 0)&&((i !=at_)&&((!bif i !=at_ then bif bif y.2.getD i.toNat 0 !=x.2.getD i.toNat 0 then true else y.3.getD i.toNat 0 !=x.3.getD i.toNat 0 then true else !y.4.getD i.toNat false==x.4.getD i.toNat false else false)&&true))))))))))))))))))))))))))))))))))))))))))))))))))))))))))))))),[],I5 x y at_ (IntKind.i64.wrap (i+1))):=by kernel_rfl
theorem r5_5 (x y:PK) (at_ i:Int):roundR 0 (liveH f5 0) (liveB' f5 0) (evalC tt (ctOf T77) ([]) 0 100 (bodyAt 0 (codeOf f5)) (I5 x y at_ i) [(0,true),(0,false)])=
  some (.normal,(decide (i<8)&&((!i !=at_)&&((!i !=at_)&&((!i !=at_)&&((!i !=at_)&&((!i !=at_)&&((!i !=at_)&&((!i !=at_)&&((!i !=at_)&&((!i !=at_)&&((!i !=at_)&&((!i !=at_)&&((!i !=at_)&&((!i !=at_)&&((!i !=at_)&&((!i !=at_)&&((!i !=at_)&&((!i !=at_)&&((!i !=at_)&&true))))))))))))))))))),[],I5 x y at_ (IntKind.i64.wrap (i+1))):=by kernel_rfl
theorem r5_6 (x y:PK) (at_ i:Int):roundR 0 (liveH f5 0) (liveB' f5 0) (evalC tt (ctOf T77) ([]) 0 100 (bodyAt 0 (codeOf f5)) (I5 x y at_ i) [(0,false)])=
  some (.exit 0,((!decide (i<8))&&true),[],X5 x y at_):=by kernel_rfl
theorem l5 (x y:PK) (at_:Int) (xa:x.a.length=8) (xb:x.b.length=8) (xc:x.c.length=8) (ya:y.a.length=8) (yb:y.b.length=8) (yc:y.c.length=8) (h: ∀j:Nat,j<8→((j:Int)!=at_)=true→y.a.getD j 0=x.a.getD j 0∧y.b.getD j 0=x.b.getD j 0∧y.c.getD j false=x.c.getD j false):
  Good Tryz.prog 0 (.block 0 (.loop (bodyAt 0 (codeOf f5)))) (I5 x y at_ 0) fun e t=>e=.normal∧t=X5 x y at_:=by
 refine Good.count hT t77 hmix (m:=0) (id:=0) (body:=bodyAt 0 (codeOf f5)) (β:=Unit) 8 (fun _ _=>True) (fun i _=>I5 x y at_ i) (fun _=>X5 x y at_) (fun _ _=>()) (liveH f5 0) (liveB' f5 0) (fun _ _=>[]) (fun _ _ _ _=>LcOk.nil) (fun i _ hi _=>⟨trivial, ?_⟩) (fun _ _=>⟨_,_,⟨_,_,r5_6 x y at_ (8:Nat),by rfl,by simp⟩⟩) () trivial
 cases h1:((i:Int)!=at_)with
 |true=>
  obtain⟨e1,e2,e3⟩:=h i hi h1
  have e:=r5_4 x y at_ i
  rw[wrap_small (by omega) (by omega),Int.toNat_natCast]at e
  refine⟨_,_,⟨_,_,e, ?_,by simp⟩⟩
  simp only[h1,e1,e2,e3,xa,xb,xc,ya,yb,yc,bne_self_eq_false,beq_self_eq_true,bS]
  omega
 |false=>
  have e:=r5_5 x y at_ i
  rw[wrap_small (by omega) (by omega)]at e
  refine⟨_,_,⟨_,_,e, ?_,by simp⟩⟩
  simp only[h1,bS]
  omega
def y5_p1 (b:List Int) (x:Bool):Bool:=((!decide ((↑b.length:Int)>1048576))&&((byteB b)&&((decide ((dkR b).a.length≤274877906944))&&((decide ((dkR b).d.length≤274877906944))&&((decide ((dkR b).d.length≤274877906944))&&x)))))
def y5_p2 (b:List Int) (x:Bool):Bool:=((!!sdO b==sdO b)&&((!!sdO b==sdO b)&&((!!sdO b==sdO b)&&((decide ((sdX b).a.length=(sdX b).a.length))&&((decide ((sdX b).b.length=(sdX b).b.length))&&((decide ((sdX b).c.length=(sdX b).c.length))&&((decide ((sdX b).d.length=(sdX b).d.length))&&((decide ((sdX b).a.length=(sdX b).a.length))&&((decide ((sdX b).b.length=(sdX b).b.length))&&((decide ((sdX b).c.length=(sdX b).c.length))&&((decide ((sdX b).d.length=(sdX b).d.length))&&((decide ((sdX b).a.length≤274877906944))&&((decide ((sdX b).b.length≤274877906944))&&((decide ((sdX b).c.length≤274877906944))&&((decide ((sdX b).d.length≤274877906944))&&((kpE (sdX b) (sdX b))&&((!!sdO b==sdO b)&&((!bif !sdO b==sdO b then true else false)&&((!bif !sdO b==sdO b then true else false)&&((decide ((dkR b).a.length≤274877906944))&&((decide ((dkR b).d.length≤274877906944))&&((!bif !sdO b==sdO b then true else false)&&x))))))))))))))))))))))
def y5_p3 (b:List Int) (x:Bool):Bool:=((!bif bif !sdO b==sdO b then true else false then true else !kokL (dkR b).k (dkR b).a (dkR b).b (dkR b).c (dkR b).on (dkR b).kd (dkR b).d (dkR b).vs)&&((!bif bif !sdO b==sdO b then true else false then true else !kokL (dkR b).k (dkR b).a (dkR b).b (dkR b).c (dkR b).on (dkR b).kd (dkR b).d (dkR b).vs)&&x))
def y5_p4 (b:List Int) (x:Bool):Bool:=((!bif bif bif !sdO b==sdO b then true else false then true else !kokL (dkR b).k (dkR b).a (dkR b).b (dkR b).c (dkR b).on (dkR b).kd (dkR b).d (dkR b).vs then true else decide (dkSh b≥8))&&x)
def y5_p5 (b:List Int) (x:Bool):Bool:=((!sdO b)&&x)
def y5_p6 (b:List Int) (x:Bool):Bool:=((!!sdO b)&&((decide ((dkR b).d.length≤274877906944))&&((decide ((sdX b).a.length=(sdX b).a.length))&&((decide ((sdX b).b.length=(sdX b).b.length))&&((decide ((sdX b).c.length=(sdX b).c.length))&&((decide ((sdX b).d.length=(sdX b).d.length))&&((decide ((sdX b).d.length≤274877906944))&&((decide (0≤dkSh b))&&((decide (dkSh b<(↑(sdX b).a.length:Int)))&&((decide ((dkSh b).toNat<(sdX b).a.length))&&((decide ((dkR b).d.length≤274877906944))&&((decide (0≤dkSh b))&&((decide (dkSh b<(↑(caL (dkR b).kd (dkR b).d).length:Int)))&&((decide ((dkSh b).toNat<(caL (dkR b).kd (dkR b).d).length))&&x))))))))))))))
def y5_p7 (b:List Int) (x:Bool):Bool:=(((sdX b).a.getD (dkSh b).toNat 0==(caL (dkR b).kd (dkR b).d).getD (dkSh b).toNat 0)&&(((sdX b).a.getD (dkSh b).toNat 0==(caL (dkR b).kd (dkR b).d).getD (dkSh b).toNat 0)&&(((sdX b).a.getD (dkSh b).toNat 0==(caL (dkR b).kd (dkR b).d).getD (dkSh b).toNat 0)&&(((sdX b).a.getD (dkSh b).toNat 0==(caL (dkR b).kd (dkR b).d).getD (dkSh b).toNat 0)&&(((sdX b).a.getD (dkSh b).toNat 0==(caL (dkR b).kd (dkR b).d).getD (dkSh b).toNat 0)&&((decide (0≤dkSh b))&&((decide (dkSh b<(↑(sdX b).b.length:Int)))&&(((sdX b).a.getD (dkSh b).toNat 0==(caL (dkR b).kd (dkR b).d).getD (dkSh b).toNat 0)&&((decide ((dkSh b).toNat<(sdX b).b.length))&&(((sdX b).a.getD (dkSh b).toNat 0==(caL (dkR b).kd (dkR b).d).getD (dkSh b).toNat 0)&&(((sdX b).a.getD (dkSh b).toNat 0==(caL (dkR b).kd (dkR b).d).getD (dkSh b).toNat 0)&&(((sdX b).a.getD (dkSh b).toNat 0==(caL (dkR b).kd (dkR b).d).getD (dkSh b).toNat 0)&&x))))))))))))
def y5_p8 (b:List Int) (x:Bool):Bool:=((bif (sdX b).a.getD (dkSh b).toNat 0==(caL (dkR b).kd (dkR b).d).getD (dkSh b).toNat 0 then(sdX b).b.getD (dkSh b).toNat 0==(dkR b).vs else false)&&((bif (sdX b).a.getD (dkSh b).toNat 0==(caL (dkR b).kd (dkR b).d).getD (dkSh b).toNat 0 then(sdX b).b.getD (dkSh b).toNat 0==(dkR b).vs else false)&&((bif (sdX b).a.getD (dkSh b).toNat 0==(caL (dkR b).kd (dkR b).d).getD (dkSh b).toNat 0 then(sdX b).b.getD (dkSh b).toNat 0==(dkR b).vs else false)&&((bif (sdX b).a.getD (dkSh b).toNat 0==(caL (dkR b).kd (dkR b).d).getD (dkSh b).toNat 0 then(sdX b).b.getD (dkSh b).toNat 0==(dkR b).vs else false)&&((bif (sdX b).a.getD (dkSh b).toNat 0==(caL (dkR b).kd (dkR b).d).getD (dkSh b).toNat 0 then(sdX b).b.getD (dkSh b).toNat 0==(dkR b).vs else false)&&((decide (0≤dkSh b))&&((decide (dkSh b<(↑(sdX b).c.length:Int)))&&((bif (sdX b).a.getD (dkSh b).toNat 0==(caL (dkR b).kd (dkR b).d).getD (dkSh b).toNat 0 then(sdX b).b.getD (dkSh b).toNat 0==(dkR b).vs else false)&&((decide ((dkSh b).toNat<(sdX b).c.length))&&x)))))))))
def y5_p9 (b:List Int) (x:Bool):Bool:=((bif bif (sdX b).a.getD (dkSh b).toNat 0==(caL (dkR b).kd (dkR b).d).getD (dkSh b).toNat 0 then(sdX b).b.getD (dkSh b).toNat 0==(dkR b).vs else false then(sdX b).c.getD (dkSh b).toNat false else false)&&x)
noncomputable abbrev y5E (b:List Int) (lcv:List (Nat×LC)) (p:Path):Option FOut:=evalF tt (ctOf T77) (lcv) 100 Tryz.f5 [.c (.view none (.ints .u8 b) b.length 1 none)] [] p
theorem y5_1 (b:List Int) (lcv:List (Nat×LC)):y5E b lcv [(0,true)]=
  some ⟨.c (.bool true),[],((decide ((↑b.length:Int)>1048576))&&true),[]⟩:=by kernel_rfl
theorem y5_3 (b:List Int) (lcv:List (Nat×LC)):y5E b lcv [(0,false),(0,false),(0,false),(0,true),(1,true)]=
  some ⟨.c (.bool (bif sdO b==sdO b then true else false)),[],(y5_p1 b (y5_p2 b ((bif bif !sdO b==sdO b then true else false then true else !kokL (dkR b).k (dkR b).a (dkR b).b (dkR b).c (dkR b).on (dkR b).kd (dkR b).d (dkR b).vs)&&((bif bif !sdO b==sdO b then true else false then true else !kokL (dkR b).k (dkR b).a (dkR b).b (dkR b).c (dkR b).on (dkR b).kd (dkR b).d (dkR b).vs)&&((bif bif !sdO b==sdO b then true else false then true else !kokL (dkR b).k (dkR b).a (dkR b).b (dkR b).c (dkR b).on (dkR b).kd (dkR b).d (dkR b).vs)&&((sdO b==sdO b)&&((sdO b==sdO b)&&((sdO b==sdO b)&&(decide ((sdX b).a.length=(sdX b).a.length)&&(decide ((sdX b).b.length=(sdX b).b.length)&&(decide ((sdX b).c.length=(sdX b).c.length)&&(decide ((sdX b).d.length=(sdX b).d.length)&&(decide ((sdX b).a.length=(sdX b).a.length)&&(decide ((sdX b).b.length=(sdX b).b.length)&&(decide ((sdX b).c.length=(sdX b).c.length)&&(decide ((sdX b).d.length=(sdX b).d.length)&&(decide ((sdX b).a.length≤274877906944)&&(decide ((sdX b).b.length≤274877906944)&&(decide ((sdX b).c.length≤274877906944)&&(decide ((sdX b).d.length≤274877906944)&&((kpE (sdX b) (sdX b))&&true))))))))))))))))))))),[]⟩:=by kernel_rfl
theorem y5_4 (b:List Int) (lcv:List (Nat×LC)):y5E b lcv [(0,false),(0,false),(0,false),(0,false),(0,true),(0,true)]=
  some ⟨.c (.bool (bif sdO b==sdO b then true else false)),[],(y5_p1 b (y5_p2 b (y5_p3 b ((bif bif bif !sdO b==sdO b then true else false then true else !kokL (dkR b).k (dkR b).a (dkR b).b (dkR b).c (dkR b).on (dkR b).kd (dkR b).d (dkR b).vs then true else decide (dkSh b≥8))&&((sdO b==sdO b)&&((sdO b==sdO b)&&((sdO b==sdO b)&&(decide ((sdX b).a.length=(sdX b).a.length)&&(decide ((sdX b).b.length=(sdX b).b.length)&&(decide ((sdX b).c.length=(sdX b).c.length)&&(decide ((sdX b).d.length=(sdX b).d.length)&&(decide ((sdX b).a.length=(sdX b).a.length)&&(decide ((sdX b).b.length=(sdX b).b.length)&&(decide ((sdX b).c.length=(sdX b).c.length)&&(decide ((sdX b).d.length=(sdX b).d.length)&&(decide ((sdX b).a.length≤274877906944)&&(decide ((sdX b).b.length≤274877906944)&&(decide ((sdX b).c.length≤274877906944)&&(decide ((sdX b).d.length≤274877906944)&&((kpE (sdX b) (sdX b))&&true)))))))))))))))))))),[]⟩:=by kernel_rfl
theorem y5_5 (b:List Int) (lcv:List (Nat×LC)):y5E b lcv [(0,false),(0,false),(0,false),(0,false),(0,false),(0,true),(0,true)]=
  some ⟨.c (.bool (bif !(dkR b).on then true else false)),[],(y5_p1 b (y5_p2 b (y5_p3 b (y5_p4 b (y5_p5 b ((!(dkR b).on)&&((!(dkR b).on)&&((!(dkR b).on)&&(decide ((sdX b).a.length=(sdX b).a.length)&&(decide ((sdX b).b.length=(sdX b).b.length)&&(decide ((sdX b).c.length=(sdX b).c.length)&&(decide ((sdX b).d.length=(sdX b).d.length)&&(decide ((sdX b).a.length≤274877906944)&&(decide ((sdX b).b.length≤274877906944)&&(decide ((sdX b).c.length≤274877906944)&&(decide ((sdX b).d.length≤274877906944)&&((kpE (sdX b) (dkR b))&&true))))))))))))))))),[]⟩:=by kernel_rfl
theorem y5_7 (b:List Int):y5E b ([(0,⟨liveH f5 0,I5 (dkR b) (sdX b) (dkSh b) 0,.normal,X5 (dkR b) (sdX b) (dkSh b)⟩)]) [(0,false),(0,false),(0,false),(0,false),(0,false),(0,false),(0,true),(0,true),(0,true),(0,true),(0,true)]=
  some ⟨.c (.bool (bif bif bif bif bif (sdX b).a.getD (dkSh b).toNat 0==(caL (dkR b).kd (dkR b).d).getD (dkSh b).toNat 0 then(sdX b).b.getD (dkSh b).toNat 0==(dkR b).vs else false then(sdX b).c.getD (dkSh b).toNat false else false then krB (sdX b).k (sdX b).a (sdX b).b (sdX b).c (sdX b).on (sdX b).kd (sdX b).d (sdX b).vs else false then true else false then kokL (sdX b).k (sdX b).a (sdX b).b (sdX b).c (sdX b).on (sdX b).kd (sdX b).d (sdX b).vs else false)),[],(y5_p1 b (y5_p2 b (y5_p3 b (y5_p4 b (y5_p6 b (y5_p7 b (y5_p8 b (y5_p9 b ((bif bif bif (sdX b).a.getD (dkSh b).toNat 0==(caL (dkR b).kd (dkR b).d).getD (dkSh b).toNat 0 then(sdX b).b.getD (dkSh b).toNat 0==(dkR b).vs else false then(sdX b).c.getD (dkSh b).toNat false else false then krB (sdX b).k (sdX b).a (sdX b).b (sdX b).c (sdX b).on (sdX b).kd (sdX b).d (sdX b).vs else false)&&((bif bif bif (sdX b).a.getD (dkSh b).toNat 0==(caL (dkR b).kd (dkR b).d).getD (dkSh b).toNat 0 then(sdX b).b.getD (dkSh b).toNat 0==(dkR b).vs else false then(sdX b).c.getD (dkSh b).toNat false else false then krB (sdX b).k (sdX b).a (sdX b).b (sdX b).c (sdX b).on (sdX b).kd (sdX b).d (sdX b).vs else false)&&((bif bif bif (sdX b).a.getD (dkSh b).toNat 0==(caL (dkR b).kd (dkR b).d).getD (dkSh b).toNat 0 then(sdX b).b.getD (dkSh b).toNat 0==(dkR b).vs else false then(sdX b).c.getD (dkSh b).toNat false else false then krB (sdX b).k (sdX b).a (sdX b).b (sdX b).c (sdX b).on (sdX b).kd (sdX b).d (sdX b).vs else false)&&(decide ((krD (dkR b).k (dkR b).a (dkR b).b (dkR b).c (dkR b).on (dkR b).kd (dkR b).d (dkR b).vs).length=(krD (dkR b).k (dkR b).a (dkR b).b (dkR b).c (dkR b).on (dkR b).kd (dkR b).d (dkR b).vs).length)&&(decide ((krD (sdX b).k (sdX b).a (sdX b).b (sdX b).c (sdX b).on (sdX b).kd (sdX b).d (sdX b).vs).length=(krD (sdX b).k (sdX b).a (sdX b).b (sdX b).c (sdX b).on (sdX b).kd (sdX b).d (sdX b).vs).length)&&(decide ((krD (dkR b).k (dkR b).a (dkR b).b (dkR b).c (dkR b).on (dkR b).kd (dkR b).d (dkR b).vs).length≤274877906944)&&(lkI (krD (dkR b).k (dkR b).a (dkR b).b (dkR b).c (dkR b).on (dkR b).kd (dkR b).d (dkR b).vs) (krD (sdX b).k (sdX b).a (sdX b).b (sdX b).c (sdX b).on (sdX b).kd (sdX b).d (sdX b).vs)&&((bif bif bif bif (sdX b).a.getD (dkSh b).toNat 0==(caL (dkR b).kd (dkR b).d).getD (dkSh b).toNat 0 then(sdX b).b.getD (dkSh b).toNat 0==(dkR b).vs else false then(sdX b).c.getD (dkSh b).toNat false else false then krB (sdX b).k (sdX b).a (sdX b).b (sdX b).c (sdX b).on (sdX b).kd (sdX b).d (sdX b).vs else false then true else false)&&((bif bif bif bif (sdX b).a.getD (dkSh b).toNat 0==(caL (dkR b).kd (dkR b).d).getD (dkSh b).toNat 0 then(sdX b).b.getD (dkSh b).toNat 0==(dkR b).vs else false then(sdX b).c.getD (dkSh b).toNat false else false then krB (sdX b).k (sdX b).a (sdX b).b (sdX b).c (sdX b).on (sdX b).kd (sdX b).d (sdX b).vs else false then true else false)&&(decide ((sdX b).a.length=(sdX b).a.length)&&(decide ((sdX b).b.length=(sdX b).b.length)&&(decide ((sdX b).c.length=(sdX b).c.length)&&(decide ((sdX b).d.length=(sdX b).d.length)&&((decide ((sdX b).d.length≤274877906944))&&true)))))))))))))))))))))),[I5 (dkR b) (sdX b) (dkSh b) 0=I5 (dkR b) (sdX b) (dkSh b) 0]⟩:=by kernel_rfl
theorem dkSh_pos (b:List Int):0≤dkSh b:=by
 have h8:=pk_bet (b.take 2000) (kdr (b.take 2000) 0).2 (x:=8) (by omega)
 have h24:=pk_bet (b.take 2000) ((kdr (b.take 2000) 0).2+1) (x:=24) (by omega)
 unfold dkSh;omega
theorem dkR_sz (b:List Int):(dkR b).a.length≤8∧(dkR b).d.length≤4:=by
 obtain⟨⟨z1,z2,z3,z4⟩,-,-⟩:=kdr_sz (b.take 2000) (p:=0) (by omega)
 have z1:(dkR b).a.length=8:=z1
 have z4:(dkR b).d.length≤4:=z4
 omega
theorem sd_szs {x:PK} (i:Int):(shardK x i).a.length≤8∧(shardK x i).b.length≤8∧(shardK x i).c.length≤8∧(shardK x i).d.length≤4:=by
 cases h:x.ok&&bet i 0 7 with
 |false=>
  have e:shardK x i=PK0:=by unfold shardK;rw[h];rfl
  rw[e];exact⟨by show 0≤8;omega,by show 0≤8;omega,by show 0≤8;omega,by show 0≤4;omega⟩
 |true=>
  rw[Bool.and_eq_true]at h
  have k:(shardK x i).ok=true:=by
   rw[shardK_eq h.1 h.2]
   cases ho:x.on with
   |true=>rw[cond_true];exact ok_shR h.1 ho h.2
   |false=>rw[cond_false];exact h.1
  obtain⟨g4,ga,gb,gc⟩:=ok_dlen k
  omega
theorem caL_eq {k:Int} {v:List Int} (h:elsOk v 4=true) (hk:bet k 1 2=true):caL k v=encL k v:=by
 unfold caL;rw[h,hk,encI_eq h];rfl
theorem law5 (b:List Int) (o1:byteB b=true):Meets Tryz.prog 5 [.c (.view none (.ints .u8 b) b.length 1 none)] [] (.c (.bool true)) []:=by
 cases c1:decide ((b.length:Int)>1048576)with
 |true=>exact meets_of t77 (by kernel_rfl) (by kernel_rfl) (y5_1 b []) (by rw[c1];rfl) (by simp) (fun cc _=>LcOk.nil)
 |false=>
  obtain⟨z1,z2⟩:=dkR_sz b
  obtain⟨g1,g2,g3,g4⟩:=sd_szs (x:=dkR b) (dkSh b)
  have hp:=dkSh_pos b
  have a1:decide ((dkR b).a.length≤274877906944)=true:=decide_eq_true (by omega)
  have a2:decide ((dkR b).d.length≤274877906944)=true:=decide_eq_true (by omega)
  have b1:decide ((sdX b).a.length≤274877906944)=true:=decide_eq_true (Nat.le_trans g1 (by omega))
  have b2:decide ((sdX b).b.length≤274877906944)=true:=decide_eq_true (Nat.le_trans g2 (by omega))
  have b3:decide ((sdX b).c.length≤274877906944)=true:=decide_eq_true (Nat.le_trans g3 (by omega))
  have b4:decide ((sdX b).d.length≤274877906944)=true:=decide_eq_true (Nat.le_trans g4 (by omega))
  cases ko:kokL (dkR b).k (dkR b).a (dkR b).b (dkR b).c (dkR b).on (dkR b).kd (dkR b).d (dkR b).vs with
  |false=>
   have e:=y5_3 b []
   simp only[beq_self_eq_true,cond_true]at e
   exact meets_of t77 (by kernel_rfl) (by kernel_rfl) e (by simp only[y5_p1,y5_p2,y5_p3,y5_p4,y5_p5,y5_p6,y5_p7,y5_p8,y5_p9,c1,o1,a1,a2,b1,b2,b3,b4,kpE_refl,lkI_refl,beq_self_eq_true,decide_true,ko,bS]) (by simp) (fun cc _=>LcOk.nil)
  |true=>
   cases c8:decide (dkSh b≥8)with
   |true=>
    have e:=y5_4 b []
    simp only[beq_self_eq_true,cond_true]at e
    exact meets_of t77 (by kernel_rfl) (by kernel_rfl) e (by simp only[y5_p1,y5_p2,y5_p3,y5_p4,y5_p5,y5_p6,y5_p7,y5_p8,y5_p9,c1,o1,a1,a2,b1,b2,b3,b4,kpE_refl,lkI_refl,beq_self_eq_true,decide_true,ko,c8,bS]) (by simp) (fun cc _=>LcOk.nil)
   |false=>
    have h8:dkSh b<8:=by have:=of_decide_eq_false c8;omega
    have hb:bet (dkSh b) 0 7=true:=bet_iff.2 ⟨hp,by omega⟩
    have ex:=shardK_eq (x:=dkR b) ko hb
    have hso:sdO b=(dkR b).on:=by unfold sdO shardB;rw[show(dkR b).ok=true from ko,hb];rfl
    cases on:(dkR b).on with
    |false=>
     rw[on]at hso
     rw[on,cond_false]at ex
     have ex:sdX b=dkR b:=ex
     have q1:kpE (sdX b) (dkR b)=true:=by rw[ex];exact kpE_refl _
     rw[on]at ko
     have e:=y5_5 b []
     simp only[on,Bool.not_false,cond_true]at e
     exact meets_of t77 (by kernel_rfl) (by kernel_rfl) e (by simp only[y5_p1,y5_p2,y5_p3,y5_p4,y5_p5,y5_p6,y5_p7,y5_p8,y5_p9,c1,o1,a1,a2,b1,b2,b3,b4,kpE_refl,lkI_refl,beq_self_eq_true,decide_true,ko,c8,on,hso,q1,bS]) (by simp) (fun cc _=>LcOk.nil)
    |true=>
     rw[on]at hso
     rw[on,cond_true]at ex
     have ex:sdX b=shR (dkR b) (dkSh b):=ex
     have K:=(dkR b).onK ko on
     obtain⟨S,f1,f2,f3,f4,f5',f6,f7⟩:=shard_facts (x:=dkR b) ko on hb
     rw[←ex]at S f1 f2 f4 f5' f6 f7
     have ec:caL (dkR b).kd (dkR b).d=encL (dkR b).kd (dkR b).d:=caL_eq K.hd K.hkd
     obtain⟨-,sa,sb,sc⟩:=ok_dlen S.ok
     have cl:(caL (dkR b).kd (dkR b).d).length=8:=by rw[ec];rfl
     have p1:((sdX b).a.getD (dkSh b).toNat 0==(caL (dkR b).kd (dkR b).d).getD (dkSh b).toNat 0)=true:=by rw[f4,ec,beq_self_eq_true]
     have p2:((sdX b).b.getD (dkSh b).toNat 0==(dkR b).vs)=true:=by rw[f5',beq_self_eq_true]
     have p4:krB (sdX b).k (sdX b).a (sdX b).b (sdX b).c (sdX b).on (sdX b).kd (sdX b).d (sdX b).vs=true:=f1
     have p5:kokL (sdX b).k (sdX b).a (sdX b).b (sdX b).c (sdX b).on (sdX b).kd (sdX b).d (sdX b).vs=true:=S.ok
     have p6:lkI (dkR b).rD (sdX b).rD=true:=by rw[f2];exact lkI_refl _
     have p6:lkI (krD (dkR b).k (dkR b).a (dkR b).b (dkR b).c (dkR b).on (dkR b).kd (dkR b).d (dkR b).vs) (krD (sdX b).k (sdX b).a (sdX b).b (sdX b).c (sdX b).on (sdX b).kd (sdX b).d (sdX b).vs)=true:=p6
     have p7:decide ((krD (dkR b).k (dkR b).a (dkR b).b (dkR b).c (dkR b).on (dkR b).kd (dkR b).d (dkR b).vs).length≤274877906944)=true:=decide_eq_true (rD_len (x:=dkR b) z2)
     have m1:decide (0≤dkSh b)=true:=decide_eq_true hp
     have m2:decide (dkSh b<((sdX b).a.length:Int))=true:=decide_eq_true (by omega)
     have m3:decide ((dkSh b).toNat<(sdX b).a.length)=true:=decide_eq_true (by omega)
     have m4:decide (dkSh b<((sdX b).b.length:Int))=true:=decide_eq_true (by omega)
     have m5:decide ((dkSh b).toNat<(sdX b).b.length)=true:=decide_eq_true (by omega)
     have m6:decide (dkSh b<((sdX b).c.length:Int))=true:=decide_eq_true (by omega)
     have m7:decide ((dkSh b).toNat<(sdX b).c.length)=true:=decide_eq_true (by omega)
     have m8:decide (dkSh b<((caL (dkR b).kd (dkR b).d).length:Int))=true:=decide_eq_true (by omega)
     have m9:decide ((dkSh b).toNat<(caL (dkR b).kd (dkR b).d).length)=true:=decide_eq_true (by omega)
     have g:=l5 (dkR b) (sdX b) (dkSh b) K.ha K.hb K.hc sa sb sc fun j hj hn=>f7 j hj fun e=>by
      rw[e,bne_iff_ne]at hn;omega
     have e:=y5_7 b
     simp only[p1,p2,f6,p4,p5,cond_true]at e
     exact meets_of t77 (by kernel_rfl) (by kernel_rfl) e (by simp only[y5_p1,y5_p2,y5_p3,y5_p4,y5_p5,y5_p6,y5_p7,y5_p8,y5_p9,c1,o1,a1,a2,b1,b2,b3,b4,kpE_refl,lkI_refl,beq_self_eq_true,decide_true,ko,c8,hso,p1,p2,f6,p4,p5,p6,p7,m1,m2,m3,m4,m5,m6,m7,m8,m9,bS]) (by simp) (fun cc hcc=>LcOk.cons (c:=cc) (by cases hcc;kernel_rfl) (by cases hcc;exact g) LcOk.nil)
end Go.Proofs.YtliggcjjkdklhaaGreat.Am
