/- DERIVED. Part 0 of the proof: Am1, Am2, Am3, Am4, Am5, Am6, Am7, Am8. No statement of the program is proved here. -/
import Derived.Orders
import Derived.Laws.CopyRow
import Derived.Laws.Append
import Derived.Laws.Cells
import Derived.KernelRfl
import Derived.Laws.IdiomStrings
import Derived.Laws.StructEq
import Derived.Great.BuildSlice
set_option linter.unusedSimpArgs false
set_option linter.unusedVariables false
set_option linter.unusedSectionVars false
set_option linter.defProp false
namespace Go.Proofs.YtdnfojanjejdgaaGreat.Am
section
structure PK where
 k:Int
 a:List Int
 b:List Int
 c:List Bool
 on:Bool
 kd:Int
 d:List Int
 vs:Int
structure Itm where
 nm:ByteArray
 ks:List PK
structure Evt where
 kd:Int
 nm:ByteArray
 tx:ByteArray
 n:Int
def PK0:PK:=⟨0,[],[],[],false,0,[],0⟩
def bM:Itm:=⟨⟨#[]⟩,[]⟩
def a8H:Evt:=⟨0,⟨#[]⟩,⟨#[]⟩,0⟩
inductive Ty where
 |str|pk|itm|evt
abbrev Ty.car:Ty→Type
 |.str=>ByteArray
 |.pk=>PK
 |.itm=>Itm
 |.evt=>Evt
def Ty.es:Ty→Nat
 |.str=>1
 |.pk=>8
 |.itm=>2
 |.evt=>4
def Ty.dflt:(τ:Ty)→τ.car
 |.str=>⟨#[]⟩
 |.pk=>PK0
 |.itm=>bM
 |.evt=>a8H
def rp2 (a r:Bool):Bool:=a&&(a&&(r))
@[simp] theorem rq2 (a r:Bool):rp2 a r=(a&&r):=by cases a<;>rfl
def rp3 (a r:Bool):Bool:=a&&(a&&(a&&(r)))
@[simp] theorem rq3 (a r:Bool):rp3 a r=(a&&r):=by cases a<;>rfl
def rp4 (a r:Bool):Bool:=a&&(a&&(a&&(a&&(r))))
@[simp] theorem rq4 (a r:Bool):rp4 a r=(a&&r):=by cases a<;>rfl
def rp5 (a r:Bool):Bool:=a&&(a&&(a&&(a&&(a&&(r)))))
@[simp] theorem rq5 (a r:Bool):rp5 a r=(a&&r):=by cases a<;>rfl
def rp6 (a r:Bool):Bool:=a&&(a&&(a&&(a&&(a&&(a&&(r))))))
@[simp] theorem rq6 (a r:Bool):rp6 a r=(a&&r):=by cases a<;>rfl
def rp7 (a r:Bool):Bool:=a&&(a&&(a&&(a&&(a&&(a&&(a&&(r)))))))
@[simp] theorem rq7 (a r:Bool):rp7 a r=(a&&r):=by cases a<;>rfl
def rp8 (a r:Bool):Bool:=a&&(a&&(a&&(a&&(a&&(a&&(a&&(a&&(r))))))))
@[simp] theorem rq8 (a r:Bool):rp8 a r=(a&&r):=by cases a<;>rfl
def rp9 (a r:Bool):Bool:=a&&(a&&(a&&(a&&(a&&(a&&(a&&(a&&(a&&(r)))))))))
@[simp] theorem rq9 (a r:Bool):rp9 a r=(a&&r):=by cases a<;>rfl
theorem rpS:(∀a r:Bool,rp2 a r=(a&&r))∧(∀a r:Bool,rp3 a r=(a&&r))∧(∀a r:Bool,rp4 a r=(a&&r))∧(∀a r:Bool,rp5 a r=(a&&r))∧(∀a r:Bool,rp6 a r=(a&&r))∧(∀a r:Bool,rp7 a r=(a&&r))∧(∀a r:Bool,rp8 a r=(a&&r))∧(∀a r:Bool,rp9 a r=(a&&r)):=
 ⟨rq2,rq3,rq4,rq5,rq6,rq7,rq8,rq9⟩
theorem bS:(!true)=false∧(!false)=true∧(∀b:Bool,(!!b)=b)∧(∀(α:Type) (a b:α),cond true a b=a)∧(∀(α:Type) (a b:α),cond false a b=b)∧(∀b:Bool,(true&&b)=b)∧(∀b:Bool,(b&&true)=b)∧(∀b:Bool,(false&&b)=false)∧(∀b:Bool,(b&&false)=false)∧(∀a b:Bool,((a&&b)=true)=(a=true∧b=true))∧(∀(p:Prop) [Decidable p],(decide p=true)=p)∧(∀p:Prop,(True∧p)=p)∧(∀p:Prop,(p∧True)=p):=
 ⟨rfl,rfl,Bool.not_not,fun _ _ _=>rfl,fun _ _ _=>rfl,Bool.true_and,Bool.and_true,Bool.false_and,Bool.and_false,Bool.and_eq_true,fun _=>decide_eq_true_eq,true_and,and_true⟩
mutual
inductive aI where
 |any
 |int (k:IntKind) (n:Int)
 |bool (b:Bool)
 |str (s:ByteArray)
 |nilp|nils|nilf
 |ptr (id i es j:Nat)
 |sl (id o len es:Nat) (cap:Option Nat)
 |vptr (c:Con) (i es j:Nat)
 |view (nl:Option Bool) (c:Con) (len es:Nat) (cap:Option Nat)
 |fn (f:FuncId) (caps:List aI)
inductive Con where
 |ints (k:IntKind) (xs:List Int)
 |bools (bs:List Bool)
 |ivs (k:IntKind) (xss:List (List Int))
 |recs (es n:Nat) (f:Nat→Nat→aI)
 |cells (cs:List aI)
 |typ (τ:Ty) (xs:List τ.car)
end
def Ty.cells:(τ:Ty)→τ.car→List aI
 |.str,s=>[.str s]
 |.pk,x=>[.int .i64 x.k,.view none (.ints .i64 x.a) x.a.length 1 none,.view none (.ints .i64 x.b) x.b.length 1 none,.view none (.bools x.c) x.c.length 1 none,.bool x.on,.int .i64 x.kd,.view none (.ints .i64 x.d) x.d.length 1 none,.int .i64 x.vs]
 |.itm,x=>[.str x.nm,.view none (.typ .pk x.ks) x.ks.length 8 none]
 |.evt,x=>[.int .i64 x.kd,.str x.nm,.str x.tx,.int .i64 x.n]
def viI:aI→Option (List Int)
 |.view _ (.ints .i64 xs) _ 1 _=>some xs
 |.nils=>some []
 |_=>none
def viB:aI→Option (List Bool)
 |.view _ (.bools xs) _ 1 _=>some xs
 |.nils=>some []
 |_=>none
def viP:aI→Option (List PK)
 |.view _ (.typ .pk xs) _ 8 _=>some xs
 |.nils=>some []
 |_=>none
def BI:List aI→Option ByteArray
 |[.str s]=>some s
 |_=>none
def ME:List aI→Option PK
 |[.int .i64 k,va,vb,vc,.bool on,.int .i64 kd,vd,.int .i64 vs]=>
  match viI va,viI vb,viB vc,viI vd with
  |some a,some b,some c,some d=>some ⟨k,a,b,c,on,kd,d,vs⟩
  |_,_,_,_=>none
 |_=>none
def BH:List aI→Option Itm
 |[.str s,v]=>(viP v).map fun ks=>⟨s,ks⟩
 |_=>none
def BG:List aI→Option Evt
 |[.int .i64 k,.str s,.str t,.int .i64 n]=>some ⟨k,s,t,n⟩
 |_=>none
def Ty.of:(τ:Ty)→List aI→Option τ.car
 |.str,l=>BI l
 |.pk,l=>ME l
 |.itm,l=>BH l
 |.evt,l=>BG l
def Ty.ofAll (τ:Ty):Nat→List aI→Option (List τ.car)
 |_,[]=>some []
 |0,_=>none
 |n+1,l=>match τ.of (l.take τ.es),τ.ofAll n (l.drop τ.es)with
  |some x,some r=>some (x::r)
  |_,_=>none
inductive AV where
 |any
 |c (x:aI)
 |agg (cs:List aI)
 |tup (vs:List AV)
def Con.size:Con→Nat
 |.ints _ xs=>xs.length
 |.bools bs=>bs.length
 |.ivs _ xss=>xss.length
 |.recs es n _=>n*es
 |.cells cs=>cs.length
 |.typ τ xs=>xs.length*τ.es
def Con.cell:Con→Nat→aI
 |.ints k xs,q=> .int k (xs.getD q 0)
 |.bools bs,q=> .bool (bs.getD q false)
 |.ivs k xss,q=> .view none (.ints k (xss.getD q [])) (xss.getD q []).length 1 none
 |.recs es _ f,q=>f (q/es) (q%es)
 |.cells cs,q=>cs.getD q .any
 |.typ τ xs,q=>(τ.cells (xs.getD (q/τ.es) τ.dflt)).getD (q%τ.es) .any
def ix:(i es j:Nat)→Nat
 |_,0,j=>j
 |i,1,0=>i
 |i,es,j=>i*es+j
theorem dI (i es j:Nat):ix i es j=i*es+j:=by
 unfold ix;split<;>simp
def Con.get (c:Con) (i es j:Nat):aI:=
 match c with
 |.recs e _ f=>bif e==es then f i j else .any
 |.typ τ xs=>bif τ.es==es then(τ.cells (xs.getD i τ.dflt)).getD j .any else .any
 |c=>c.cell (ix i es j)
def inB (i es j m n:Nat):Bool:=
 match m with
 |1=>decide (ix i es j<n)
 |m=>decide (ix i es j+m≤n)
def Con.has (c:Con) (i es j m:Nat):Bool:=
 match c with
 |.recs e n _=>(e==es)&&decide (i<n)&&decide (j+m≤e)
 |.typ τ xs=>(τ.es==es)&&decide (i<xs.length)&&decide (j+m≤τ.es)
 |c=>inB i es j m c.size
def mI (f:Nat→aI):Nat→Nat→List aI
 |0,_=>[]
 |m+1,q=>f q::mI f m (q+1)
def Con.put (c:Con) (i es j:Nat) (x:aI):Option Con:=
 match c,x with
 |.ints k xs,.int k' n=>if k=k' then some (.ints k (xs.set (ix i es j) n))else none
 |.bools bs,.bool b=>some (.bools (bs.set (ix i es j) b))
 |.ivs k xss,.view _ (.ints k' xs) _ 1 _=>if k=k' then some (.ivs k (xss.set (ix i es j) xs))else none
 |.cells cs,x=>some (.cells (cs.set (ix i es j) x))
 |_,_=>none
def Con.putsC (c:Con) (i es j:Nat):List aI→Option Con
 |[]=>some c
 |x::r=>(c.put i es j x).bind fun c'=>c'.putsC i es (j+1) r
def Con.puts (c:Con) (i es j:Nat) (l:List aI):Option Con:=
 match c with
 |.typ τ xs=>bif (τ.es==es)&&Nat.ble (j+l.length) τ.es then(match τ.of ((τ.cells (xs.getD i τ.dflt)).take j++(l++(τ.cells (xs.getD i τ.dflt)).drop (j+l.length)))with
  |some y=>some (.typ τ (xs.set i y))
  |none=>none)else none
 |c=>c.putsC i es j l
inductive CK where
 |ints (k:IntKind)|bools|ivs (k:IntKind)|cells|typ (τ:Ty)
def mL {α:Type} (f:aI→Option α):List aI→Option (List α)
 |[]=>some []
 |x::r=>match f x,mL f r with
  |some a,some l=>some (a::l)
  |_,_=>none
def UE (k:IntKind):aI→Option Int
 |.int k' n=>if k=k' then some n else none
 |_=>none
def LI:aI→Option Bool
 |.bool b=>some b
 |_=>none
def ivC (k:IntKind):aI→Option (List Int)
 |.view _ (.ints k' xs) _ 1 _=>if k=k' then some xs else none
 |_=>none
def sU:CK→List aI→Option Con
 |.cells,l=>some (.cells l)
 |.ints k,l=>(mL (UE k) l).map (.ints k)
 |.bools,l=>(mL LI l).map .bools
 |.ivs k,l=>(mL (ivC k) l).map (.ivs k)
 |.typ τ,l=>(τ.ofAll l.length l).map (.typ τ)
def Con.app:Con→Con→Option Con
 |.ints k xs,.ints k' ys=>if k=k' then some (.ints k (xs++ys))else none
 |.bools xs,.bools ys=>some (.bools (xs++ys))
 |.ivs k xs,.ivs k' ys=>if k=k' then some (.ivs k (xs++ys))else none
 |.cells xs,.cells ys=>some (.cells (xs++ys))
 |.typ .str xs,.typ .str ys=>some (.typ .str (xs++ys))
 |.typ .pk xs,.typ .pk ys=>some (.typ .pk (xs++ys))
 |.typ .itm xs,.typ .itm ys=>some (.typ .itm (xs++ys))
 |.typ .evt xs,.typ .evt ys=>some (.typ .evt (xs++ys))
 |_,_=>none
def oP {α:Type} (es:Nat) (xs:List α) (lo hi:Option Nat):List α:=
 match lo,hi with
 |none,none=>xs
 |none,some h=>xs.take (ix h es 0)
 |some l,none=>xs.drop (ix l es 0)
 |some l,some h=>(xs.take (ix h es 0)).drop (ix l es 0)
def Con.sub (es:Nat):Con→(lo hi:Option Nat)→Option Con
 |.ints k xs,lo,hi=>some (.ints k (oP es xs lo hi))
 |.bools xs,lo,hi=>some (.bools (oP es xs lo hi))
 |.ivs k xs,lo,hi=>some (.ivs k (oP es xs lo hi))
 |.cells xs,lo,hi=>some (.cells (oP es xs lo hi))
 |.recs e n f,lo,hi=>bif e==es then
   (match lo,hi with
   |none,none=>some (.recs e n f)
   |none,some h=>some (.recs e h f)
   |some l,none=>some (.recs e (n-l) fun i j=>f (i+l) j)
   |some l,some h=>some (.recs e (h-l) fun i j=>f (i+l) j))
  else none
 |.typ τ xs,lo,hi=>bif τ.es==es then some (.typ τ (oP 1 xs lo hi))else none
inductive TD where
 |int (k:IntKind)|bool|str
 |slice (e:Nat)|arr (n e:Nat)
 |struct (fs:List (Nat×Nat))
 |ptr (e:Nat)
 |other
structure TI where
 size:Nat
 bytes:Nat
 agg:Bool
 zero:List aI
 ck:CK
 desc:TD
 eqs:Bool
abbrev Tab:=List (Option TI)
def Tab.ti (tt:Tab) (t:Nat):Option TI:=tt.getD t none
inductive aV where
 |unborn|dead
 |live (c:Con)
structure Eff where
 val:AV
 sets:List (Nat×aV)
 obl:List Bool
structure St where
 tmps:List AV
 heap:List aV
def Heap.get (h:List aV) (id:Nat):aV:=h.getD id .unborn
def yH:Value→aI
 |.int k n=> .int k n
 |.bool b=> .bool b
 |.string s=> .str s
 |.pointer none=> .nilp
 |.slice none 0 0=> .nils
 |.nilFunc=> .nilf
 |.func (.func f) ⟨[]⟩ ⟨[]⟩=> .fn f []
 |_=> .any
def yX:Value→AV
 |.agg cs=>bif cs.toList.all Value.oneCell' then .agg (cs.toList.map yH)else .any
 |.tuple ⟨[]⟩=> .tup []
 |.tuple _=> .any
 |v=> .c (yH v)
def St.ev (s:St):Operand→AV
 |.tmp t=>s.tmps.getD t (.tup [])
 |.const v=>yX v
 |.global _=> .any
 |.func f=> .c (.fn f [])
abbrev Get:=Nat→aV
abbrev CT:=FuncId→List AV→Get→Nat→Option Eff
def val (x:AV) (obl:List Bool:=[]):Option Eff:=some {val:=x,sets:=[],obl}
def hZ (s t:ByteArray):Bool:=s.toList==t.toList
def cX (s t:ByteArray):Bool:=Op.bytesLess s.toList t.toList
def c6 (s:ByteArray):List Int:=s.data.toList.map fun b=>(b.toNat:Int)
def d8 (xs:List Int):ByteArray:=⟨⟨xs.map fun n=>UInt8.ofNat n.toNat⟩⟩
theorem AQ (xs:List Int):d8 xs=xs.foldl (fun r n=>r.push (UInt8.ofNat n.toNat)) ByteArray.empty:=by
 have key: ∀(xs:List Int) (s:ByteArray),xs.foldl (fun r n=>r.push (UInt8.ofNat n.toNat)) s=⟨⟨s.data.toList++xs.map fun n=>UInt8.ofNat n.toNat⟩⟩:=by
  intro xs
  induction xs with
  |nil=>intro s;simp
  |cons x xs ih=>intro s;rw[List.foldl_cons,ih];simp[ByteArray.push]
 rw[key];rfl
def E8 (s t:ByteArray):ByteArray:=⟨⟨s.data.toList++t.data.toList⟩⟩
def TN (op:BinOp) (x y:aI):Option (aI×List Bool):=
 match x,y with
 |.int k a,.int yk b=>
  match op with
  |.shl=>if(match b with|.ofNat _=>true|_=>false)then some (.int k (k.wrap (a*2^(min b.toNat k.bits))),[])else none
  |.shr=>if(match b with|.ofNat _=>true|_=>false)then some (.int k (a.fdiv (2^(min b.toNat k.bits))),[])else none
  |_=>
  if k=yk then
   match op with
   |.add=>some (.int k (k.wrap (a+b)),[])
   |.sub=>some (.int k (k.wrap (a-b)),[])
   |.mul=>some (.int k (k.wrap (a*b)),[])
   |.quo=>some (.int k (k.wrap (a.tdiv b)),[!(decide (b=0))])
   |.rem=>some (.int k (a.tmod b),[!(decide (b=0))])
   |.and=>some (.int k (k.wrap ((BitVec.ofInt k.bits a&&&BitVec.ofInt k.bits b).toNat)),[])
   |.or=>some (.int k (k.wrap ((BitVec.ofInt k.bits a|||BitVec.ofInt k.bits b).toNat)),[])
   |.xor=>some (.int k (k.wrap ((BitVec.ofInt k.bits a^^^BitVec.ofInt k.bits b).toNat)),[])
   |.eql=>some (.bool (a==b),[])
   |.neq=>some (.bool (a !=b),[])
   |.lss=>some (.bool (decide (a<b)),[])
   |.leq=>some (.bool (decide (a≤b)),[])
   |.gtr=>some (.bool (decide (a>b)),[])
   |.geq=>some (.bool (decide (a≥b)),[])
   |_=>none
  else none
 |.str s,.str t=>
  match op with
  |.add=>some (.str (E8 s t),[decide (s.size+t.size≤9223372036854775807)])
  |.eql=>some (.bool (hZ s t),[])
  |.neq=>some (.bool (!hZ s t),[])
  |.lss=>some (.bool (cX s t),[])
  |.leq=>some (.bool (cX s t||hZ s t),[])
  |.gtr=>some (.bool (!(cX s t||hZ s t)),[])
  |.geq=>some (.bool (!cX s t),[])
  |_=>none
 |_,_=>none
def aeq (d:TD) (x y:aI):Option aI:=
 match d,x,y with
 |.bool,.bool a,.bool b=>some (.bool (a==b))
 |.slice _,.nils,.nils=>some (.bool true)
 |.slice _,.view (some nl) _ _ _ _,.nils=>some (.bool nl)
 |_,_,_=>none
def eqI:List aI→List aI→Option Bool
 |[],[]=>some true
 |.int k a::r,.int k' b::r'=>if k=k' then(eqI r r').map ((a==b)&& ·)else none
 |_,_=>none
def yF (tt:Tab) (op:BinOp) (t:Nat) (x y:AV):Option Eff:=
 match x,y with
 |.c x,.c y=>
  match TN op x y with
  |some (v,o)=>val (.c v) o
  |none=>
   (tt.ti t).bind fun ti=>
   match op,aeq ti.desc x y with
   |.eql,some v=>val (.c v)
   |.neq,some (.bool b)=>val (.c (.bool (!b)))
   |_,_=>none
 |.agg cs,.agg ds=>
  (tt.ti t).bind fun ti=>
  bif ti.eqs then(bif decide (cs.length=ti.size)then
   match op,eqI cs ds with
   |.eql,some b=>val (.c (.bool b))
   |.neq,some b=>val (.c (.bool (!b)))
   |_,_=>none
   else none)else
  match ti.desc with
  |.arr m e=>(tt.ti e).bind fun te=>
   match te.desc with
   |.int _=>bif decide (te.size=1)&&(decide (cs.length=m)&&decide (ds.length=m))then
     match op,eqI cs ds with
     |.eql,some b=>val (.c (.bool b))
     |.neq,some b=>val (.c (.bool (!b)))
     |_,_=>none
    else none
   |_=>none
  |_=>none
 |_,_=>none
def aun (op:UnOp) (x:AV):Option Eff:=
 match op,x with
 |.not,.c (.bool b)=>val (.c (.bool (!b)))
 |.neg,.c (.int k n)=>val (.c (.int k (k.wrap (0-n))))
 |_,_=>none
def cellsOf:AV→Option (List aI)
 |.c x=>some [x]
 |.agg cs=>some cs
 |_=>none
def cS:List Nat→Bool
 |[]=>true
 |x::r=> !r.elem x&&cS r
def GW (get:Get) (sz:Nat):aI→Option (Con×Nat×List Bool)
 |.view _ c len es _=>bif es==sz then some (c,len,[])else none
 |.sl id 0 len es _=>bif es==sz then match get id with
  |.live c=>some (c,len,[decide (ix len es 0=c.size)])
  |_=>none
  else none
 |_=>none
def hO (get:Get) (id:Nat):Bool:=
 match get id with
 |.live _=>true
 |_=>false
mutual
def aI.ids:aI→List Nat
 |.ptr id _ _ _=>[id]
 |.sl id _ _ _ _=>[id]
 |.fn _ l=>tQ l
 |_=>[]
def tQ:List aI→List Nat
 |[]=>[]
 |x::r=>x.ids++tQ r
end
def Con.free:Con→Bool
 |.cells l=>(tQ l).isEmpty
 |.recs .. =>false
 |_=>true
def froz (get:Get):aI→Option (aI×List (Nat×aV)×List Bool)
 |.sl id 0 len es cap=>match get id with
  |.live c=>bif c.free then some (.view none c len es cap,[(id,.dead)],[decide (ix len es 0=c.size)])else none
  |_=>none
 |.sl .. =>none
 |.ptr .. =>none
 |.fn f (x::r)=>none
 |x=>some (x,[],[])
def eN (get:Get):List aI→Option (List aI×List (Nat×aV)×List Bool)
 |[]=>some ([],[],[])
 |x::r=>match froz get x,eN get r with
  |some (y,s,o),some (ys,s',o')=>some (y::ys,s++s',o++o')
  |_,_=>none
def dY (get:Get) (ck:CK) (l:List aI):Option (Con×List (Nat×aV)×List Bool):=
 match ck with
 |.cells=>some (.cells l,[],[])
 |.ivs k=>match eN get l with
  |some (l',s,o)=>(sU (.ivs k) l').map fun c=>(c,s,o++[cS (s.map (·.1))])
  |none=>none
 |.typ τ=>match eN get l with
  |some (l',s,o)=>(sU (.typ τ) l').map fun c=>(c,s,o++[cS (s.map (·.1))])
  |none=>none
 |ck=>(sU ck l).map fun c=>(c,[],[])
def newRow (base:Nat) (v:AV) (c:Con) (s:List (Nat×aV)) (o:List Bool):Option Eff:=
 some {val:=v,sets:=s++[(base,.live c)],obl:=o}
def nH (ti:TI) (c:Con) (i es j:Nat):Option Eff:=
 bif ti.agg then val (.agg (mI (fun q=>c.get i es q) ti.size j)) [c.has i es j ti.size]
 else val (.c (c.get i es j)) [c.has i es j 1]
def AM (tt:Tab) (get:Get) (t:Nat) (x:AV):Option Eff:=
 (tt.ti t).bind fun ti=>
 match x with
 |.c (.ptr id i es j)=>match get id with
  |.live c=>nH ti c i es j
  |_=>none
 |.c (.vptr c i es j)=>nH ti c i es j
 |_=>none
def Con.boxed:Con→Bool
 |.ivs .. =>true
 |.typ .. =>true
 |_=>false
def E4 (tt:Tab) (get:Get) (t:Nat) (x v:AV):Option Eff:=
 (tt.ti t).bind fun ti=>
 match x,cellsOf v with
 |.c (.ptr id i es j),some l=>
  match get id with
  |.live c=>
   if l.length=ti.size then
    match c.boxed with
    |true=>match eN get l with
     |some (l',s,o)=>match c.puts i es j l' with
      |some c'=>some {val:=.tup [],sets:=s++[(id,.live c')],obl:=o++[cS (id::s.map (·.1)),c.has i es j ti.size]}
      |none=>none
     |none=>none
    |false=>match c.puts i es j l with
     |some c'=>some {val:=.tup [],sets:=[(id,.live c')],obl:=[c.has i es j ti.size]}
     |none=>none
   else none
  |_=>none
 |_,_=>none
def m8 (tt:Tab) (get:Get) (t:Nat) (x i:AV):Option Eff:=
 (tt.ti t).bind fun ti=>
 match ti.desc,x,i with
 |.slice e,.c (.sl id o len es _),.c (.int _ n)=>
  (tt.ti e).bind fun te=>bif decide (te.size=es)&&hO get id then val (.c (.ptr id (n.toNat+o) es 0)) [decide (0≤n),decide (n<(len:Int))]else none
 |.slice e,.c (.view _ c len es _),.c (.int _ n)=>
  (tt.ti e).bind fun te=>bif decide (te.size=es)then val (.c (.vptr c n.toNat es 0)) [decide (0≤n),decide (n<(len:Int))]else none
 |.arr m e,.c (.ptr id i0 es0 j0),.c (.int _ n)=>
  (tt.ti e).bind fun te=>bif hO get id then
   (match es0 with
   |0=>val (.c (.ptr id n.toNat te.size j0)) [decide (0≤n),decide (n<(m:Int))]
   |es0=>val (.c (.ptr id i0 es0 (n.toNat*te.size+j0))) [decide (0≤n),decide (n<(m:Int))])else none
 |.arr m e,.c (.vptr c i0 es0 j0),.c (.int _ n)=>
  (tt.ti e).bind fun te=>
   (match es0 with
   |0=>val (.c (.vptr c n.toNat te.size j0)) [decide (0≤n),decide (n<(m:Int))]
   |es0=>val (.c (.vptr c i0 es0 (n.toNat*te.size+j0))) [decide (0≤n),decide (n<(m:Int))])
 |_,_,_=>none
def field? (fs:List (Nat×Nat)) (f:Nat):Option (Nat×Nat):=fs[f]?
def m7 (tt:Tab) (get:Get) (t:Nat) (x:AV) (f:Nat):Option Eff:=
 (tt.ti t).bind fun ti=>
 match ti.desc,x with
 |.struct fs,.c (.ptr id i es j)=>bif hO get id then(field? fs f).bind fun(o,_)=>val (.c (.ptr id i es (j+o)))else none
 |.struct fs,.c (.vptr c i es j)=>(field? fs f).bind fun(o,_)=>val (.c (.vptr c i es (j+o)))
 |_,_=>none
def apart (tt:Tab) (e:Nat) (cs:List aI) (off:Nat):Option AV:=
 (tt.ti e).bind fun te=>
 bif te.agg then some (.agg ((cs.drop off).take te.size))else(cs[off]?).map .c
def E1 (tt:Tab) (t:Nat) (x:AV) (f:Nat):Option Eff:=
 (tt.ti t).bind fun ti=>
 match ti.desc,x with
 |.struct fs,.agg cs=>(field? fs f).bind fun(o,e)=>(apart tt e cs o).bind fun v=>val v
 |_,_=>none
def E2 (tt:Tab) (t:Nat) (x i:AV):Option Eff:=
 (tt.ti t).bind fun ti=>
 match ti.desc,x,i with
 |.arr m e,.agg cs,.c (.int _ n)=>
  (tt.ti e).bind fun te=>(apart tt e cs (n.toNat*te.size)).bind fun v=>val v [decide (0≤n),decide (n<(m:Int))]
 |.str,.c (.str s),.c (.int _ n)=>val (.c (.int .u8 ((s.data.getD n.toNat 0).toNat:Int))) [decide (0≤n),decide (n<(s.size:Int))]
 |_,_,_=>none
def tG (place:Nat→Option (Nat×Nat)) (cells:List aI):List (Nat×AV)→Option (List aI)
 |[]=>some cells
 |(i,v)::rest=>
  match place i,cellsOf v with
  |some (off,size),some l=>
   if l.length=size∧off+size≤cells.length then tG place (cells.take off++l++cells.drop (off+size)) rest else none
  |_,_=>none
def DY (tt:Tab) (t:Nat) (parts:List (Nat×AV)):Option Eff:=
 (tt.ti t).bind fun ti=>
 match ti.desc with
 |.struct fs=>(tG (fun i=>(fs[i]?).bind fun(o,e)=>(tt.ti e).map fun te=>(o,te.size)) ti.zero parts).bind fun l=>val (.agg l)
 |.arr _ e=>(tt.ti e).bind fun te=>(tG (fun i=>some (i*te.size,te.size)) ti.zero parts).bind fun l=>val (.agg l)
 |_=>none
def lH (l:List aI):Nat→List aI
 |0=>[]
 |n+1=>l++lH l n
def jV (tt:Tab) (get:Get) (base t n:Nat) (parts:List (Nat×AV)):Option Eff:=
 (tt.ti t).bind fun ti=>
 match ti.desc with
 |.slice e=>(tt.ti e).bind fun te=>
  if n*te.size≤4096 then
  (tG (fun i=>some (i*te.size,te.size)) (lH te.zero n) parts).bind fun l=>
  (dY get te.ck l).bind fun(c,s,o)=>newRow base (.c (.sl base 0 n te.size (some n))) c s o
  else none
 |_=>none
def isZ (k:IntKind):aI→Bool
 |.int k' n=>decide (k=k')&&decide (n=0)
 |_=>false
def s5:CK→List aI→Nat→Option Con
 |.ints k,[z],n=>bif isZ k z then some (.ints k (List.replicate n 0))else none
 |.ints k,z,n=>bif z.all (isZ k)then some (.ints k (List.replicate (n*z.length) 0))else none
 |.bools,[.bool false],n=>some (.bools (List.replicate n false))
 |.ivs k,[.nils],n=>some (.ivs k (List.replicate n []))
 |.typ τ,z,n=>(τ.of z).map fun y=> .typ τ (List.replicate n y)
 |.cells,z,n=>some (.cells (lH z n))
 |_,_,_=>none
def mA (tt:Tab) (base t:Nat) (len cap:AV):Option Eff:=
 (tt.ti t).bind fun ti=>
 match ti.desc,len,cap with
 |.slice e,.c (.int _ n),.c (.int _ m)=>(tt.ti e).bind fun te=>
  if te.bytes≤256∧te.size≠0 then
   (s5 te.ck te.zero n.toNat).bind fun c=>
   newRow base (.c (.sl base 0 n.toNat te.size (some m.toNat))) c [] [decide (0≤n),decide (n≤m),decide (m≤274877906944)]
  else none
 |_,_,_=>none
def bnd:Option AV→Option (Option Int)
 |none=>some none
 |some (.c (.int _ n))=>some (some n)
 |_=>none
def MF (o:Option Int) (d:Int):Int:=
 match o with
 |some x=>x
 |none=>d
def inO (o:Option Int) (d:Int):List Bool:=
 match o with
 |some x=>[decide (0≤x),decide (x≤d)]
 |none=>[]
def iU (len:Nat) (lo hi mx:Option Int):List Bool:=
 inO lo (MF hi len)++(inO hi (MF mx len)++inO mx len)
def HP (n:Nat):Option Int→Nat
 |some l=>n-l.toNat
 |none=>n
def MJ (o:Nat):Option Int→Nat
 |some l=>l.toNat+o
 |none=>o
def mE (len:Nat):Option Int→Nat
 |some h=>h.toNat
 |none=>len
def G3 (cap:Option Nat) (lo mx:Option Int):Option Nat:=
 match mx with
 |some m=>some (HP m.toNat lo)
 |none=>match cap with
  |some c=>some (HP c lo)
  |none=>none
def E3 (tt:Tab) (get:Get) (t:Nat) (x:AV) (lo hi mx:Option AV):Option Eff:=
 (tt.ti t).bind fun ti=>
 (bnd lo).bind fun l=>(bnd hi).bind fun h=>(bnd mx).bind fun m=>
 match ti.desc,x with
 |.slice e,.c (.sl id o len es cap)=>(tt.ti e).bind fun te=>
  bif decide (te.size=es)&&hO get id&&(m.isNone||h.isSome)then
  val (.c (.sl id (MJ o l) (HP (mE len h) l) es (G3 cap l m))) (iU len l h m)
  else none
 |.slice e,.c (.view _ c len es cap)=>(tt.ti e).bind fun te=>
  bif decide (te.size=es)&&(m.isNone||h.isSome)then
  (c.sub es (l.map Int.toNat) (h.map Int.toNat)).bind fun c'=>
  val (.c (.view none c' (HP (mE len h) l) es (G3 cap l m))) (iU len l h m)
  else none
 |.arr n e,.c (.ptr id 0 0 0)=>(tt.ti e).bind fun te=>
  match l,h,m,get id with
  |none,none,none,.live c=>val (.c (.sl id 0 n te.size (some n))) [decide (n*te.size≤c.size)]
  |_,_,_,_=>none
 |_,_=>none
def yE (tt:Tab) (get:Get) (base:Nat) (t u:Nat) (s x:AV):Option Eff:=
 (tt.ti t).bind fun ti=>(tt.ti u).bind fun ui=>
 match ti.desc,ui.desc,s,x with
 |.slice e,.slice _,.c s,.c x=>(tt.ti e).bind fun te=>
  if te.bytes≤256∧te.size≠0 then
  (GW get te.size x).bind fun(cx,n,ox)=>
  match s with
  |.nils=>newRow base (.c (.sl base 0 n te.size none)) cx [] (ox++[decide (n≤274877906944)])
  |.view _ _ 0 _ (some 0)=>newRow base (.c (.sl base 0 n te.size none)) cx [] (ox++[decide (n≤274877906944)])
  |.sl id 0 len es cap=>
   bif es==te.size then
   match get id with
   |.live c=>(match c.app cx with
    |some c'=>newRow base (.c (.sl base 0 (len+n) es none)) c' [(id,.dead)] (ox++[decide (ix len es 0=c.size),decide (len+n≤274877906944)])
    |none=>none)
   |_=>none
   else none
  |_=>none
  else none
 |_,_,_,_=>none
def sN (tt:Tab) (get:Get) (base:Nat) (t u:Nat) (s:AV) (n:Int):Option Eff:=
 (tt.ti t).bind fun ti=>(tt.ti u).bind fun ui=>
 match ti.desc,ui.desc,s with
 |.slice e,.int _,.c (.sl id 0 len es _)=>(tt.ti e).bind fun te=>
  if te.bytes≤256∧te.size≠0∧es=te.size then
   (s5 te.ck te.zero n.toNat).bind fun cx=>
   match get id with
   |.live c=>(match c.app cx with
    |some c'=>newRow base (.c (.sl base 0 (len+n.toNat) es none)) c' [(id,.dead)] [decide (0≤n),decide (ix len es 0=c.size),decide ((len:Int)+n≤274877906944)]
    |none=>none)
   |_=>none
  else none
 |_,_,_=>none
def TO (tt:Tab) (get:Get) (t:Nat) (x:AV):Option Eff:=
 (tt.ti t).bind fun ti=>
 match ti.desc,x with
 |.slice _,.c (.nils)=>val (.c (.int .i64 0))
 |.slice _,.c (.sl id _ len _ _)=>bif hO get id then val (.c (.int .i64 (len:Int)))else none
 |.slice _,.c (.view _ _ len _ _)=>val (.c (.int .i64 (len:Int)))
 |.str,.c (.str s)=>val (.c (.int .i64 (s.size:Int)))
 |_,_=>none
def g8 (xs:List Int) (o n:Nat):List Int:=xs.take o++(List.replicate n 0++xs.drop (o+n))
def DZ (tt:Tab) (get:Get) (t:Nat) (x:AV):Option Eff:=
 (tt.ti t).bind fun ti=>
 match ti.desc,x with
 |.slice e,.c (.sl id o len 1 _)=>(tt.ti e).bind fun te=>
  match te.zero,get id with
  |[z],.live (.ints k xs)=>bif isZ k z then some {val:=.tup [],sets:=[(id,.live (.ints k (g8 xs o len)))],obl:=[decide (o+len≤xs.length)]}else none
  |_,_=>none
 |_,_=>none
def pM {α:Type} (xs:List α) (o:Nat) (seg:List α):List α:=xs.take o++(seg++xs.drop (o+seg.length))
def L8 (tt:Tab) (get:Get) (t:Nat) (x y:AV):Option Eff:=
 (tt.ti t).bind fun ti=>
 match ti.desc,x,y with
 |.slice e,.c (.sl id o len 1 _),.c (.sl id2 o2 len2 1 _)=>(tt.ti e).bind fun te=>
  bif decide (te.size=1)then
   match get id,get id2 with
   |.live (.ints k xs),.live (.ints k' ys)=>if k=k' then
     some {val:=.c (.int .i64 (Nat.min len2 len:Nat)),sets:=[(id,.live (.ints k (pM xs o ((ys.drop o2).take (Nat.min len2 len)))))],obl:=[decide (0<len),decide (0<len2),decide (o+len≤xs.length),decide (o2+len2≤ys.length)]}
    else none
   |.live (.bools xs),.live (.bools ys)=>
     some {val:=.c (.int .i64 (Nat.min len2 len:Nat)),sets:=[(id,.live (.bools (pM xs o ((ys.drop o2).take (Nat.min len2 len)))))],obl:=[decide (0<len),decide (0<len2),decide (o+len≤xs.length),decide (o2+len2≤ys.length)]}
   |_,_=>none
  else none
 |_,_,_=>none
def H7 (isMax:Bool) (x y:AV):Option Eff:=
 match x,y with
 |.c (.int k a),.c (.int k' b)=>if k=k' then val (.c (.int k (bif isMax then(if b>a then b else a)else(if b<a then b else a))))else none
 |_,_=>none
def i5:List AV→Option (List aI)
 |[]=>some []
 |.c x::r=>(i5 r).map (x:: ·)
 |_::_=>none
end
section
mutual
def AV.ids:AV→List Nat
 |.any=>[]
 |.c x=>x.ids
 |.agg l=>tQ l
 |.tup vs=>UD vs
def UD:List AV→List Nat
 |[]=>[]
 |x::r=>x.ids++UD r
end
def rV:aV→List Nat
 |.live (.cells l)=>tQ l
 |_=>[]
def sV:Op→Bool
 |.call {callee:=.value _,..}=>true
 |_=>false
def M0 (deep:Bool) (h:List aV) (vs:List AV):List Nat:=
 let l:=UD vs
 l++bif deep then l.flatMap (fun id=>rV (Heap.get h id))else []
def fpO (op:Op) (h:List aV) (vs:List AV):List Nat:=
 match op with
 |.move _|.assign _=>[]
 |op=>M0 (sV op) h vs
def only (h:List aV) (fp:List Nat):Get:=fun id=>bif fp.elem id then Heap.get h id else .unborn
def FY:CK→CK
 |.ivs _=> .cells
 |.typ _=> .cells
 |k=>k
def LF:AV→AV→AV→Option Eff
 |.c (.bool c),.tup [],y=>val y [!c]
 |.c (.bool c),x,.tup []=>val x [c]
 |.c (.bool c),.c (.bool x),.c (.bool y)=>val (.c (.bool (bif c then x else y)))
 |_,_,_=>none
def TP (get:Get):AV→Option Eff
 |.c (.ptr id i es j)=>match get id with
  |.live _=>val (.c (.ptr id i es j))
  |_=>none
 |.c (.vptr c i es j)=>val (.c (.vptr c i es j))
 |.c (.fn f l)=>val (.c (.fn f l))
 |_=>none
def sP (x:AV) (i:Nat):Option Eff:=
 match x with
 |.tup vs=>(vs[i]?).bind fun v=>val v
 |_=>none
def sO (tt:Tab) (get:Get) (s t:Nat) (x:AV):Option Eff:=
 (tt.ti s).bind fun si=>(tt.ti t).bind fun ti=>
 match si.desc,ti.desc,x with
 |.int _,.int k,.c (.int _ n)=>val (.c (.int k (k.wrap n)))
 |.str,.str,.c (.str s)=>val (.c (.str s))
 |.str,.slice e,.c (.str s)=>(tt.ti e).bind fun te=>
  match te.desc with
  |.int .u8=>val (.c (.view none (.ints .u8 (c6 s)) s.size 1 none))
  |_=>none
 |.slice e,.str,.c x=>(tt.ti e).bind fun te=>
  match te.desc with
  |.int .u8=>(GW get 1 x).bind fun(c,_,o)=>
   match c with
   |.ints .u8 xs=>val (.c (.str (d8 xs))) o
   |_=>none
  |_=>none
 |_,_,_=>none
def aop (tt:Tab) (ct:CT) (get:Get) (base:Nat) (ev:Operand→AV):Op→Option Eff
 |.move x|.assign x=>val (ev x)
 |.pick c a b=>LF (ev c) (ev a) (ev b)
 |.alloc e=>(tt.ti e).bind fun te=>(dY get (FY te.ck) te.zero).bind fun(c,s,o)=>newRow base (.c (.ptr base 0 0 0)) c s o
 |.box e x=>(tt.ti e).bind fun te=>(cellsOf (ev x)).bind fun l=>
   if l.length=te.size then(dY get (FY te.ck) l).bind fun(c,s,o)=>newRow base (.c (.ptr base 0 0 0)) c s o else none
 |.build t parts=>DY tt t (parts.toList.map fun(i,x)=>(i,ev x))
 |.buildSlice t n parts=>jV tt get base t n (parts.toList.map fun(i,x)=>(i,ev x))
 |.load t x=>AM tt get t (ev x)
 |.store t x v=>E4 tt get t (ev x) (ev v)
 |.nilCheck x=>TP get (ev x)
 |.binOp op t x y _=>yF tt op t (ev x) (ev y)
 |.unOp op _ x=>aun op (ev x)
 |.convert s t x=>sO tt get s t (ev x)
 |.makeFunc (.func f) first caps=>match first.toList with
  |[]=>(i5 (caps.toList.map ev)).bind fun l=>val (.c (.fn f l))
  |_=>none
 |.makeSlice t l c=>mA tt base t (ev l) (ev c)
 |.slice t x lo hi mx=>E3 tt get t (ev x) (lo.map ev) (hi.map ev) (mx.map ev)
 |.fieldAddr t x f=>m7 tt get t (ev x) f
 |.field t x f=>E1 tt t (ev x) f
 |.indexAddr t x i=>m8 tt get t (ev x) (ev i)
 |.index t x i=>E2 tt t (ev x) (ev i)
 |.extract x i=>sP (ev x) i
 |.call {callee:=.builtin b,args,argTypes}=>
  match b,args.toList,argTypes.toList with
  |.len,[x],[t]=>TO tt get t (ev x)
  |.append,[s,x],[t,u]=>match ev x with
   |.c (.int _ n)=>sN tt get base t u (ev s) n
   |y=>yE tt get base t u (ev s) y
  |.clear,[x],[t]=>DZ tt get t (ev x)
  |.copy,[x,y],[t,_]=>L8 tt get t (ev x) (ev y)
  |.max,[x,y],_=>H7 true (ev x) (ev y)
  |.min,[x,y],_=>H7 false (ev x) (ev y)
  |_,_,_=>none
 |.call {callee:=.value f,args,..}=>match ev f with
  |.c (.fn f caps)=>ct f (args.toList.map ev++caps.map .c) get base
  |_=>none
 |_=>none
def slots:Op→Nat
 |.alloc _|.box .. |.buildSlice .. |.makeSlice .. =>1
 |.call {callee:=.builtin .append,..}=>1
 |.call {callee:=.value _,..}=>8
 |_=>0
def rA (tmps:List AV) (dst:Option Nat) (v:AV):List AV:=
 match dst with
 |some d=>tmps.set d v
 |none=>tmps
def cZ (h:List aV):List (Nat×aV)→List aV
 |[]=>h
 |(i,s)::r=>cZ (h.set i s) r
structure Rec where
 i:Nat
 o:Oper
 base:Nat
 dec:Option Bool
 fp:List Nat
 eff:Eff
def cR (o:Oper):List Operand:=o.op.operands.toList
def vP (ops:Array Oper) (tmps:List AV) (j:Nat):AV:=
 match(ops[j]?).bind (·.dst)with
 |some d=>tmps.getD d (.tup [])
 |none=> .tup []
def iF (tt:Tab) (ct:CT) (ops:Array Oper) (s:St) (o:Oper) (base:Nat) (dec:Option Bool):Option (List Nat×Eff):=
 let fp:=fpO o.op s.heap ((cR o).map s.ev)
 let run:Option Eff:=aop tt ct (only s.heap fp) base s.ev o.op
 match o.guard,dec with
 |none,none=>run.map fun e=>(fp,e)
 |some (j,want),some true=>
  match vP ops s.tmps j with
  |.c (.bool b)=>run.map fun e=>(fp,{e with obl:=(bif want then b else !b)::e.obl})
  |_=>none
 |some (j,want),some false=>
  match vP ops s.tmps j with
  |.c (.bool b)=>some (fp,{val:=.tup [],sets:=[],obl:=[bif want then !b else b]})
  |.tup []=>some (fp,{val:=.tup [],sets:=[],obl:=[]})
  |_=>none
 |_,_=>none
def dK (s:St) (dst:Option Nat) (e:Eff):St:= {tmps:=rA s.tmps dst e.val,heap:=cZ s.heap e.sets}
abbrev gJ:=List (Nat×Bool)
def gJ.take (p:gJ) (x:AV):Option (Bool×gJ):=
 match p,x with
 |(0,b)::r,.c (.bool _)=>some (b,r)
 |(n+1,b)::r,.c (.bool c)=>some (c,(n,b)::r)
 |[],.c (.bool c)=>some (c,[])
 |_,_=>none
abbrev AE:=List (Nat×Bool)
def known? (k:AE) (j:Nat):Option Bool:=
 match k with
 |[]=>none
 |(i,b)::r=>bif i==j then some b else known? r j
def ZW (ops:Array Oper) (s:St) (o:Oper) (kn:AE) (p:gJ):Option (Option Bool×AE×gJ):=
 match o.guard with
 |none=>some (none,kn,p)
 |some (j,want)=>
  match vP ops s.tmps j with
  |.tup []=>some (some false,kn,p)
  |x=>match known? kn j with
   |some b=>some (some (bif want then b else !b),kn,p)
   |none=>(p.take x).map fun(b,r)=>(some (bif want then b else !b),(j,b)::kn,r)
def pI (tt:Tab) (ct:CT) (ops:Array Oper):List Oper→(i base:Nat)→St→AE→gJ→Option (List Rec×St×gJ×List Bool)
 |[],_,_,s,_,p=>some ([],s,p,[])
 |o::rest,i,base,s,kn,p=>
  match ZW ops s o kn p with
  |none=>none
  |some (dec,kn,p)=>
   match iF tt ct ops s o base dec with
   |none=>none
   |some (fp,e)=>
    bif !(e.sets.all fun x=>Nat.blt x.1 (base+slots o.op))then none else
    match pI tt ct ops rest (i+1) (base+slots o.op) (dK s o.dst e) kn p with
    |none=>none
    |some (rs,s',p',b)=>some ({i,o,base,dec,fp,eff:=e}::rs,s',p',e.obl++b)
def qW:List Oper→Nat
 |[]=>0
 |o::r=>slots o.op+qW r
def cM:Nat→Nat→List Nat
 |0,_=>[]
 |n+1,k=>k::cM n (k+1)
def MB (ms:List Nat) (o:Oper):Nat:=
 o.after.toList.foldl (fun s e=>bif Region.binds .any e then s|||(2^e.on|||ms.getD e.on 0)else s) 0
def GD:List Oper→List Nat→List Nat
 |[],acc=>acc
 |o::r,acc=>GD r (acc++[MB acc o])
def PH (ops:List Oper):List Nat:=GD ops []
def u9 (ms:List Nat):List Oper→Nat→Bool
 |[],_=>true
 |o::r,i=>(ms.getD i 0==MB ms o)&&o.after.toList.all (fun e=> !Region.binds .any e||Nat.blt e.on i)&&u9 ms r (i+1)
def GE (a b:List Nat):Bool:=a.any fun x=>b.elem x
def Rec.writes (r:Rec):List Nat:=r.eff.sets.map (·.1)++cM (slots r.o.op) r.base
def qH (ops:Array Oper) (x y:Rec):Bool:=
 Oper.apart ops x.o y.o&& !GE x.writes y.fp&& !GE y.writes x.fp&& !GE x.writes y.writes
def nE (ops:Array Oper) (ms:List Nat):List Rec→Bool
 |[]=>true
 |x::r=>(r.all fun y=>(ms.getD y.i 0).testBit x.i||qH ops x y)&&nE ops ms r
def rT (ops:Array Oper) (rs:List Rec):Bool:=
 let ms:=PH ops.toList
 u9 ms ops.toList 0&&nE ops ms rs
inductive Ex where
 |normal
 |exit (id:Nat)
 |ret
 deriving DecidableEq
structure LC where
 live:List Nat
 pre:St
 ex:Ex
 post:St
structure Out where
 ex:Ex
 st:St
 path:gJ
 obl:List Bool
 eqs:List Prop
def idx? (l:List Nat) (id:Nat):Option Nat:=
 match l with
 |[]=>none
 |x::r=>if x=id then some 0 else(idx? r id).map (· +1)
mutual
def aI.ren (l:List Nat):aI→aI
 |.ptr id i es j=>match idx? l id with
  |some k=> .ptr k i es j
  |none=> .any
 |.sl id o len es cap=>match idx? l id with
  |some k=> .sl k o len es none
  |none=> .any
 |.fn f caps=> .fn f (vT l caps)
 |x=>x
def vT (l:List Nat):List aI→List aI
 |[]=>[]
 |x::r=>x.ren l::vT l r
end
mutual
def AV.ren (l:List Nat):AV→AV
 |.any=> .any
 |.c x=> .c (x.ren l)
 |.agg cs=> .agg (vT l cs)
 |.tup vs=> .tup (BQ l vs)
def BQ (l:List Nat):List AV→List AV
 |[]=>[]
 |x::r=>x.ren l::BQ l r
end
def aV.ren (l:List Nat):aV→aV
 |.live (.cells cs)=> .live (.cells (vT l cs))
 |.live (.recs ..)=> .dead
 |s=>s
def tW (live:List Nat) (order:List Nat):List AV→Nat→List AV
 |[],_=>[]
 |v::r,t=>(bif live.elem t then v.ren order else .any)::tW live order r (t+1)
def remap (live order:List Nat) (s:St):St:=
 {tmps:=tW live order s.tmps 0,heap:=order.map fun id=>(Heap.get s.heap id).ren order}
def eX:Nat→Nat→List Nat→Bool
 |0,_,_=>true
 |m+1,k,x::r=>(x==k)&&eX m (k+1) r
 |_+1,_,[]=>false
def jI:List Nat→List Nat→List Nat
 |acc,[]=>acc
 |acc,x::r=>bif acc.elem x then jI acc r else jI (acc++[x]) r
def MG (m:Nat) (live:List Nat) (s:St):List Nat:=
 let l:=jI (cM m 0) (live.flatMap fun t=>(s.tmps.getD t (.tup [])).ids)
 jI l (l.flatMap fun id=>rV (Heap.get s.heap id))
def fit (m:Nat) (live:List Nat) (s:St):St:=remap live (MG m live s) s
def tH (lc:List (Nat×LC)) (id:Nat):Option LC:=
 match lc with
 |[]=>none
 |(k,x)::r=>if k=id then some x else tH r id
def aM (tt:Tab) (ct:CT) (lc:List (Nat×LC)) (m:Nat):Nat→Code→St→gJ→Option Out
 |0,_,_,_=>none
 |n+1,c,s,p=>
  match c with
  |.skip=>some ⟨.normal,s,p,[],[]⟩
  |.label _=>some ⟨.normal,s,p,[],[]⟩
  |.ret=>some ⟨.ret,s,p,[],[]⟩
  |.exit id=>some ⟨.exit id,s,p,[],[]⟩
  |.region _ ops draw=>
   let l:=ops.toList
   match pI tt ct ops l 0 s.heap.length {s with heap:=s.heap++List.replicate (qW l) .unborn} [] p with
   |none=>none
   |some (rs,s',p',b)=>
    bif !draw||rT ops rs then some ⟨.normal,s',p',b,[]⟩else none
  |.seq a b=>
   match aM tt ct lc m n a s p with
   |some ⟨.normal,s',p',o,q⟩=>
    match aM tt ct lc m n b s' p' with
    |some ⟨e,s'',p'',o',q'⟩=>some ⟨e,s'',p'',o++o',q++q'⟩
    |none=>none
   |r=>r
  |.cond x a b=>
   match p.take (s.ev x)with
   |none=>none
   |some (t,p')=>
    match s.ev x with
    |.c (.bool v)=>
     match aM tt ct lc m n (bif t then a else b) s p' with
     |some ⟨e,s',p'',o,q⟩=>some ⟨e,s',p'',(bif t then v else !v)::o,q⟩
     |none=>none
    |_=>none
  |.block id body=>
   match tH lc id with
   |some x=>some ⟨x.ex,x.post,p,[],[fit m x.live s=x.pre]⟩
   |none=>
    match aM tt ct lc m n body s p with
    |some ⟨.exit k,s',p',o,q⟩=>some ⟨if k=id then .normal else .exit k,s',p',o,q⟩
    |r=>r
  |.loop body=>
   match aM tt ct lc m n body s p with
   |some ⟨.normal,s',p',o,q⟩=>
    match aM tt ct lc m n (.loop body) s' p' with
    |some ⟨e,s'',p'',o',q'⟩=>some ⟨e,s'',p'',o++o',q++q'⟩
    |none=>none
   |r=>r
  |.scope body=>none
  |_=>none
def dD (m:Nat) (res:AV) (h:List aV):List Nat:=
 let l:=jI (cM m 0) res.ids
 jI l (l.flatMap fun id=>rV (Heap.get h id))
def LD:List Bool→Bool
 |[]=>true
 |b::r=>b&&LD r
structure sF where
 res:AV
 heap:List aV
 obl:Bool
 eqs:List Prop
def F0 (tt:Tab) (s:St):ResultVar→Option (AV×List Bool)
 |.tmp t=>some (s.tmps.getD t (.tup []),[])
 |.cell a t=>(AM tt (Heap.get s.heap) t (s.tmps.getD a (.tup []))).map fun e=>(e.val,e.obl)
def nU (tt:Tab) (s:St):List ResultVar→Option (List AV×List Bool)
 |[]=>some ([],[])
 |x::r=>match F0 tt s x,nU tt s r with
  |some (v,o),some (vs,o')=>some (v::vs,o++o')
  |_,_=>none
def GV (fn:Func) (args:List AV) (heap:List aV):St:=
 {tmps:=args++List.replicate (fn.ntmps-args.length) (.tup []),heap}
def lF:List AV→AV
 |[v]=>v
 |vs=> .tup vs
def aJ (tt:Tab) (ct:CT) (lc:List (Nat×LC)) (fuel:Nat) (fn:Func) (args:List AV) (heap:List aV) (p:gJ):Option sF:=
 match fn.body with
 |none=>none
 |some c=>
  match aM tt ct lc heap.length fuel c (GV fn args heap) p with
  |some ⟨.exit _,_,_,_,_⟩=>none
  |some ⟨_,s,_,o,q⟩=>
   match nU tt s fn.results.toList with
   |none=>none
   |some (vs,o')=>
    let res:=lF vs
    let l:=dD heap.length res s.heap
    some ⟨res.ren l,l.map fun id=>(Heap.get s.heap id).ren l,LD (o++o'),q⟩
  |none=>none
def blk (id:Nat):Code→Option Code
 |.block k c=>if k=id then some c else blk id c
 |.seq a b=>match blk id a with|some c=>some c|none=>blk id b
 |.cond _ a b=>match blk id a with|some c=>some c|none=>blk id b
 |.loop c=>blk id c
 |_=>none
end
section
variable {X : Nat → Prop}
inductive Wh where
 |unborn|dead|nil
 |row (b:Nat)
abbrev Rho:=Nat→Wh
def b9 (ρ:Rho) (b:Nat):Prop:= ∃id,ρ id=.row b
def mZ (cap:Option Nat) (c:Nat):Prop:= ∀k,cap=some k→c=k
def noIds:Rho:=fun _=> .unborn
inductive CR0 (w:World) (L:Nat→Prop):Rho→aI→Value→Prop
 |any {ρ:Rho} (v:Value) (h:v.oneCell'=true):CR0 w L ρ .any v
 |int {ρ:Rho} (k:IntKind) (n:Int):CR0 w L ρ (.int k n) (.int k n)
 |bool {ρ:Rho} (b:Bool):CR0 w L ρ (.bool b) (.bool b)
 |str {ρ:Rho} (s:ByteArray):CR0 w L ρ (.str s) (.string s)
 |nilp {ρ:Rho}:CR0 w L ρ .nilp (.pointer none)
 |nils {ρ:Rho}:CR0 w L ρ .nils (.slice none 0 0)
 |nilf {ρ:Rho}:CR0 w L ρ .nilf .nilFunc
 |ptrDead {ρ:Rho} (id i es j:Nat) (v:Value) (hd:ρ id=.dead) (h:v.oneCell'=true):CR0 w L ρ (.ptr id i es j) v
 |ptr {ρ:Rho} (id i es j b:Nat) (hb:ρ id=.row b):CR0 w L ρ (.ptr id i es j) (.pointer (some ⟨b,i*es+j,none⟩))
 |slDead {ρ:Rho} (id o len es:Nat) (cap:Option Nat) (v:Value) (hd:ρ id=.dead) (h:v.oneCell'=true):CR0 w L ρ (.sl id o len es cap) v
 |sl {ρ:Rho} (id o len es:Nat) (cap:Option Nat) (b c:Nat) (ty:TypeId) (n:Nat) (hb:ρ id=.row b) (hs:w.shape? b=some (ty,n)) (hn:(o+c)*es≤n)
   (hl:len≤c) (hc:mZ cap c):CR0 w L ρ (.sl id o len es cap) (.slice (some ⟨b,o*es,none⟩) len c)
 |slNone {ρ:Rho} (id o es:Nat) (cap:Option Nat) (a:Option Addr) (h1:ρ id≠ .unborn) (hc:mZ cap 0):CR0 w L ρ (.sl id o 0 es cap) (.slice a 0 0)
 |vptr {ρ:Rho} (c:Con) (i es j b base:Nat) (u:Nat→Value) (hl:0<c.size→ ¬L b) (hc: ∀q,q<c.size→w.cell? ⟨b,base+q,none⟩=some (u q))
   (hu: ∀q,q<c.size→CR0 w L noIds (c.cell q) (u q)):CR0 w L ρ (.vptr c i es j) (.pointer (some ⟨b,base+(i*es+j),none⟩))
 |view {ρ:Rho} (nl:Option Bool) (c:Con) (len es:Nat) (cap:Option Nat) (b base k:Nat) (u:Nat→Value) (hl:0<c.size→ ¬L b)
   (hc: ∀q,q<c.size→w.cell? ⟨b,base+q,none⟩=some (u q)) (hu: ∀q,q<c.size→CR0 w L noIds (c.cell q) (u q)) (hz:len*es=c.size) (hk:len≤k)
   (hcap:mZ cap k) (hnl: ∀x,nl=some x→x=false):CR0 w L ρ (.view nl c len es cap) (.slice (some ⟨b,base,none⟩) len k)
 |viewNone {ρ:Rho} (nl:Option Bool) (c:Con) (es:Nat) (cap:Option Nat) (a:Option Addr) (k:Nat) (hz:c.size=0) (hcap:mZ cap k) (hnl: ∀x,nl=some x→x=a.isNone) (hk:a=none→k=0):
   CR0 w L ρ (.view nl c 0 es cap) (.slice a 0 k)
 |fn {ρ:Rho} (f:FuncId) (caps:List aI) (vs:Array Value) (hs:vs.size=caps.length) (h: ∀i,i<caps.length→CR0 w L ρ (caps.getD i .any) (vs.getD i undef)):
   CR0 w L ρ (.fn f caps) (.func (.func f) #[] vs)
abbrev CR (X:Nat→Prop) (w:World) (ρ:Rho):aI→Value→Prop:=CR0 w (fun b=>b9 ρ b∨X b) ρ
theorem CR.one {w:World} {ρ:Rho} {c:aI} {v:Value} (h:CR X w ρ c v):v.oneCell'=true:=by
 cases h<;>first|assumption|rfl
inductive AVR (X:Nat→Prop) (w:World) (ρ:Rho):AV→Value→Prop
 |any (v:Value):AVR X w ρ .any v
 |c (x:aI) (v:Value) (h:CR X w ρ x v):AVR X w ρ (.c x) v
 |agg (cs:List aI) (vs:Array Value) (hs:vs.size=cs.length) (h: ∀i,i<cs.length→CR X w ρ (cs.getD i .any) (vs.getD i undef)):AVR X w ρ (.agg cs) (.agg vs)
 |tup (l:List AV) (vs:Array Value) (hs:vs.size=l.length) (h: ∀i,i<l.length→AVR X w ρ (l.getD i (.tup [])) (vs.getD i undef)):AVR X w ρ (.tup l) (.tuple vs)
structure bN (w:World) (ρ:Rho) (w':World) (ρ':Rho):Prop where
 keep: ∀b,b<w.heap.size→ ¬b9 ρ b→w'.heap[b]? =w.heap[b]?
 shape: ∀b,b<w.heap.size→w'.shape? b=w.shape? b
 size:w.heap.size≤w'.heap.size
 dead: ∀id,ρ id=.dead→ρ' id=.dead
 nil: ∀id,ρ id=.nil→ρ' id=.nil∨ρ' id=.dead
 at_: ∀id b,ρ id=.row b→ρ' id=.row b∨ρ' id=.dead
 fresh: ∀id b,ρ' id=.row b→b9 ρ b∨w.heap.size≤b
theorem bN.refl (w:World) (ρ:Rho):bN w ρ w ρ:=
 ⟨fun _ _ _=>rfl,fun _ _=>rfl,Nat.le_refl _,fun _ h=>h,fun _ h=> .inl h,fun _ _ h=> .inl h,fun id _ h=> .inl ⟨id,h⟩⟩
theorem bN.trans {w w1 w2:World} {ρ ρ1 ρ2:Rho} (a:bN w ρ w1 ρ1) (b:bN w1 ρ1 w2 ρ2):bN w ρ w2 ρ2:=by
 refine⟨fun k hk hl=> ?_,fun k hk=> ?_,Nat.le_trans a.size b.size,fun id h=>b.dead id (a.dead id h),fun id h=> ?_,fun id k h=> ?_,fun id k h=> ?_⟩
 ·have hl1: ¬b9 ρ1 k:=by
   rintro⟨id,hid⟩
   rcases a.fresh id k hid with h|h
   ·exact hl h
   ·omega
  rw[b.keep k (by have:=a.size;omega) hl1,a.keep k hk hl]
 ·rw[b.shape k (by have:=a.size;omega),a.shape k hk]
 ·rcases a.nil id h with h|h
  ·exact b.nil id h
  ·exact .inr (b.dead id h)
 ·rcases a.at_ id k h with h|h
  ·exact b.at_ id k h
  ·exact .inr (b.dead id h)
 ·rcases b.fresh id k h with⟨j,hj⟩|h
  ·exact a.fresh j k hj
  ·exact .inr (Nat.le_trans a.size h)
theorem cell?_lt {w:World} {a:Addr} {v:Value} (h:w.cell? a=some v):a.block<w.heap.size:=by
 unfold World.cell? at h
 rcases Nat.lt_or_ge a.block w.heap.size with h'|h'
 ·exact h'
 ·simp[Array.getElem?_eq_none h']at h
theorem cell?_same {w w':World} {a:Addr} (h:w'.heap[a.block]? =w.heap[a.block]?):w'.cell? a=w.cell? a:=by
 unfold World.cell?;rw[h]
theorem shape?_lt {w:World} {b:Nat} {x:TypeId×Nat} (h:w.shape? b=some x):b<w.heap.size:=by
 unfold World.shape? at h
 rcases Nat.lt_or_ge b w.heap.size with h'|h'
 ·exact h'
 ·simp[Array.getElem?_eq_none h']at h
structure cC (ρ ρ':Rho):Prop where
 dead: ∀id,ρ id=.dead→ρ' id=.dead
 nil: ∀id,ρ id=.nil→ρ' id=.nil∨ρ' id=.dead
 at_: ∀id b,ρ id=.row b→ρ' id=.row b∨ρ' id=.dead
theorem cC.refl (ρ:Rho):cC ρ ρ:=⟨fun _ h=>h,fun _ h=> .inl h,fun _ _ h=> .inl h⟩
theorem cC.trans {a b c:Rho} (x:cC a b) (y:cC b c):cC a c:=by
 refine⟨fun id h=>y.dead id (x.dead id h),fun id h=> ?_,fun id k h=> ?_⟩
 ·rcases x.nil id h with h|h
  ·exact y.nil id h
  ·exact .inr (y.dead id h)
 ·rcases x.at_ id k h with h|h
  ·exact y.at_ id k h
  ·exact .inr (y.dead id h)
theorem cC.noIds (ρ:Rho):cC noIds ρ:=⟨fun _ h=>by simp[Am.noIds]at h,fun _ h=>by simp[Am.noIds]at h,fun _ _ h=>by simp[Am.noIds]at h⟩
theorem bN.ids {w w':World} {ρ ρ':Rho} (m:bN w ρ w' ρ'):cC ρ ρ':=⟨m.dead,m.nil,m.at_⟩
theorem cC.unborn {ρ ρ':Rho} (m:cC ρ ρ') {id:Nat} (h:ρ id≠ .unborn):ρ' id≠ .unborn:=by
 cases hr:ρ id with
 |unborn=>exact absurd hr h
 |dead=>rw[m.dead id hr];simp
 |nil=>rcases m.nil id hr with e|e<;>rw[e]<;>simp
 |row b=>rcases m.at_ id b hr with e|e<;>rw[e]<;>simp
structure cY (w:World) (L:Nat→Prop) (w':World) (L':Nat→Prop):Prop where
 keep: ∀b,b<w.heap.size→ ¬L b→w'.heap[b]? =w.heap[b]?
 shape: ∀b,b<w.heap.size→w'.shape? b=w.shape? b
 size:w.heap.size≤w'.heap.size
 fresh: ∀b,L' b→L b∨w.heap.size≤b
theorem cY.refl (w:World) (L:Nat→Prop):cY w L w L:=⟨fun _ _ _=>rfl,fun _ _=>rfl,Nat.le_refl _,fun _ h=> .inl h⟩
theorem cY.trans {w w1 w2:World} {L L1 L2:Nat→Prop} (a:cY w L w1 L1) (b:cY w1 L1 w2 L2):cY w L w2 L2:=by
 refine⟨fun k hk hl=> ?_,fun k hk=> ?_,Nat.le_trans a.size b.size,fun k h=> ?_⟩
 ·have hl1: ¬L1 k:=fun h=>by
   rcases a.fresh k h with h|h
   ·exact hl h
   ·omega
  rw[b.keep k (by have:=a.size;omega) hl1,a.keep k hk hl]
 ·rw[b.shape k (by have:=a.size;omega),a.shape k hk]
 ·rcases b.fresh k h with h|h
  ·exact a.fresh k h
  ·exact .inr (Nat.le_trans a.size h)
theorem bN.toB {w w':World} {ρ ρ':Rho} (m:bN w ρ w' ρ'):cY w (b9 ρ) w' (b9 ρ'):=⟨m.keep,m.shape,m.size,fun b ⟨id,h⟩=>m.fresh id b h⟩
theorem CR0.mono {w w':World} {L L':Nat→Prop} (m:cY w L w' L') {ρ:Rho} {c:aI} {v:Value} (h:CR0 w L ρ c v): ∀ {ρ':Rho},cC ρ ρ'→CR0 w' L' ρ' c v:=by
 induction h with
 |any v h=>exact fun _=> .any v h
 |int k n=>exact fun _=> .int k n
 |bool b=>exact fun _=> .bool b
 |str s=>exact fun _=> .str s
 |nilp=>exact fun _=> .nilp
 |nils=>exact fun _=> .nils
 |nilf=>exact fun _=> .nilf
 |ptrDead id i es j v hd h=>exact fun im=> .ptrDead id i es j v (im.dead id hd) h
 |ptr id i es j b hb=>
  intro ρ' im
  rcases im.at_ id b hb with h|h
  ·exact .ptr id i es j b h
  ·exact .ptrDead id i es j _ h rfl
 |slDead id o len es cap v hd h=>exact fun im=> .slDead id o len es cap v (im.dead id hd) h
 |sl id o len es cap b c ty n hb hs hn hl hc=>
  intro ρ' im
  rcases im.at_ id b hb with h|h
  ·exact .sl id o len es cap b c ty n h (by rw[m.shape b (shape?_lt hs)];exact hs) hn hl hc
  ·exact .slDead id o len es cap _ h rfl
 |slNone id o es cap a h1 hc=>exact fun im=> .slNone id o es cap a (im.unborn h1) hc
 |vptr c i es j b base u hl hc hu ih=>
  intro ρ' im
  have hk: ∀q,q<c.size→w'.heap[b]? =w.heap[b]? :=fun q hq=>m.keep b (cell?_lt (hc q hq)) (hl (by omega))
  refine .vptr c i es j b base u (fun h0 hL=> ?_) (fun q hq=>by rw[cell?_same (hk q hq)];exact hc q hq) (fun q hq=>ih q hq (.refl _))
  rcases m.fresh b hL with h|h
  ·exact hl h0 h
  ·have:=cell?_lt (hc 0 h0);simp at this;omega
 |view nl c len es cap b base k u hl hc hu hz hk hcap hnl ih=>
  intro ρ' im
  have hkp: ∀q,q<c.size→w'.heap[b]? =w.heap[b]? :=fun q hq=>m.keep b (cell?_lt (hc q hq)) (hl (by omega))
  refine .view nl c len es cap b base k u (fun h0 hL=> ?_) (fun q hq=>by rw[cell?_same (hkp q hq)];exact hc q hq) (fun q hq=>ih q hq (.refl _)) hz hk hcap hnl
  rcases m.fresh b hL with h|h
  ·exact hl h0 h
  ·have:=cell?_lt (hc 0 h0);simp at this;omega
 |viewNone nl c es cap a k hz hcap hnl hk=>exact fun _=> .viewNone nl c es cap a k hz hcap hnl hk
 |fn f caps vs hs h ih=>exact fun im=> .fn f caps vs hs fun i hi=>ih i hi im
theorem cY.or {w w':World} {L L':Nat→Prop} (m:cY w L w' L') (X:Nat→Prop):cY w (fun b=>L b∨X b) w' (fun b=>L' b∨X b):=
 ⟨fun b hb hl=>m.keep b hb fun h=>hl (.inl h),m.shape,m.size,fun b h=>h.elim (fun h=>(m.fresh b h).elim (fun h=> .inl (.inl h)) .inr) fun h=> .inl (.inr h)⟩
theorem CR.mono {w w':World} {ρ ρ':Rho} (m:bN w ρ w' ρ') {c:aI} {v:Value} (h:CR X w ρ c v):CR X w' ρ' c v:=CR0.mono (m.toB.or X) h m.ids
theorem CR0.lift {w:World} {L:Nat→Prop} {c:aI} {v:Value} (h:CR0 w L noIds c v) {ρ:Rho}:CR0 w L ρ c v:=CR0.mono (cY.refl w L) h (cC.noIds ρ)
theorem CR0.free {w:World} {L:Nat→Prop} {ρ:Rho} {c:aI} {v:Value} (h:CR0 w L ρ c v) (hc:c.ids=[]):CR0 w L noIds c v:=by
 induction h with
 |any v h=>exact .any v h
 |int k n=>exact .int k n
 |bool b=>exact .bool b
 |str s=>exact .str s
 |nilp=>exact .nilp
 |nils=>exact .nils
 |nilf=>exact .nilf
 |ptrDead id i es j v hd h=>simp[aI.ids]at hc
 |ptr id i es j b hb=>simp[aI.ids]at hc
 |slDead id o len es cap v hd h=>simp[aI.ids]at hc
 |sl id o len es cap b c ty n hb hs hn hl hc'=>simp[aI.ids]at hc
 |slNone id o es cap a h1 hc'=>simp[aI.ids]at hc
 |vptr c i es j b base u hl hc' hu ih=>exact .vptr c i es j b base u hl hc' hu
 |view nl c len es cap b base k u hl hc' hu hz hk hcap hnl ih=>exact .view nl c len es cap b base k u hl hc' hu hz hk hcap hnl
 |viewNone nl c es cap a k hz hcap hnl hk=>exact .viewNone nl c es cap a k hz hcap hnl hk
 |fn f caps vs hs h ih=>
  simp only[aI.ids]at hc
  refine .fn f caps vs hs fun i hi=>ih i hi ?_
  have key: ∀(l:List aI),tQ l=[]→ ∀i,i<l.length→(l.getD i .any).ids=[]:=by
   intro l
   induction l with
   |nil=>intro _ i hi;simp at hi
   |cons x l ih=>
    intro hl i hi
    simp only[tQ,List.append_eq_nil_iff]at hl
    cases i with
    |zero=>simpa using hl.1
    |succ i=>simpa using ih hl.2 i (by simpa using hi)
  exact key caps hc i hi
theorem AVR.mono {w w':World} {ρ ρ':Rho} (m:bN w ρ w' ρ') {x:AV} {v:Value} (h:AVR X w ρ x v):AVR X w' ρ' x v:=by
 induction h with
 |any v=>exact .any v
 |c x v h=>exact .c x v (h.mono m)
 |agg cs vs hs h=>exact .agg cs vs hs fun i hi=>(h i hi).mono m
 |tup l vs hs h ih=>exact .tup l vs hs ih
def H0 (X:Nat→Prop) (w:World) (ρ:Rho) (c:Con) (b:Nat):Prop:=
 ∃(cs:Array Value) (ty:TypeId),w.heap[b]? =some (.cells cs ty (0,0))∧c.size≤cs.size∧ ∀q,q<c.size→CR X w ρ (c.cell q) (cs.getD q undef)
def eO (X:Nat→Prop) (w:World) (ρ:Rho):aV→Wh→Prop
 |.unborn,.unborn=>True
 |.dead,.dead=>True
 |.live c,.nil=>c.size=0
 |.live c,.row b=>H0 X w ρ c b
 |_,_=>False
structure Mem (X:Nat→Prop) (w0:World) (M:Nat→Prop) (h:List aV) (ρ:Rho) (w:World):Prop where
 slot: ∀id,eO X w ρ (Heap.get h id) (ρ id)
 inj: ∀i j b,ρ i=.row b→ρ j=.row b→i=j
 own: ∀id b,ρ id=.row b→w0.heap.size≤b∨M b
 os:w.os=w0.os
 tape:w.tape=w0.tape
 output:w.output=w0.output
 size:w0.heap.size≤w.heap.size
 keep: ∀k,k<w0.heap.size→ ¬M k→w.heap[k]? =w0.heap[k]?
 foreign: ∀b,X b→b<w0.heap.size∧ ¬M b
theorem Mem.notX {w0 w:World} {M:Nat→Prop} {h:List aV} {ρ:Rho} (m:Mem X w0 M h ρ w) {id b:Nat} (hb:ρ id=.row b): ¬X b:=fun hx=>by
 obtain⟨h1,h2⟩:=m.foreign b hx
 rcases m.own id b hb with h|h
 ·omega
 ·exact h2 h
def upd (ρ:Rho) (id:Nat) (x:Wh):Rho:=fun j=>if j=id then x else ρ j
theorem aW (ρ:Rho) (id:Nat) (x:Wh):upd ρ id x id=x:=by simp[upd]
theorem bK (ρ:Rho) {id j:Nat} (x:Wh) (h:j≠id):upd ρ id x j=ρ j:=by simp[upd,h]
theorem Heap.get_set (h:List aV) (i j:Nat) (s:aV):Heap.get (h.set i s) j=if j=i∧i<h.length then s else Heap.get h j:=by
 unfold Heap.get
 rw[List.getD_eq_getElem?_getD,List.getD_eq_getElem?_getD,List.getElem?_set]
 by_cases e:i=j
 ·subst e
  by_cases hl:i<h.length
  ·simp[hl]
  ·simp[hl,List.getElem?_eq_none (Nat.le_of_not_lt hl)]
 ·have: ¬j=i:=fun e'=>e e'.symm
  simp[e,this]
theorem Heap.get_ge {h:List aV} {i:Nat} (hi:h.length≤i):Heap.get h i=.unborn:=by
 simp[Heap.get,List.getD_eq_getElem?_getD,List.getElem?_eq_none hi]
theorem Heap.lt_of_live {h:List aV} {i:Nat} (hi:Heap.get h i≠ .unborn):i<h.length:=by
 rcases Nat.lt_or_ge i h.length with h'|h'
 ·exact h'
 ·exact absurd (Heap.get_ge h') hi
theorem Mem.lt {w0 w:World} {M:Nat→Prop} {h:List aV} {ρ:Rho} (m:Mem X w0 M h ρ w) {id b:Nat} (hb:ρ id=.row b):b<w.heap.size:=by
 have hs:=m.slot id
 rw[hb]at hs
 cases hg:Heap.get h id with
 |live c=>
  rw[hg]at hs
  obtain⟨cs,ty,e,_⟩:=hs
  rcases Nat.lt_or_ge b w.heap.size with h'|h'
  ·exact h'
  ·simp[Array.getElem?_eq_none h']at e
 |unborn=>rw[hg]at hs;exact hs.elim
 |dead=>rw[hg]at hs;exact hs.elim
theorem eO.mono {w w':World} {ρ ρ':Rho} (m:bN w ρ w' ρ') {s:aV} {x:Wh} (h:eO X w ρ s x) (hb: ∀b,x=.row b→w'.heap[b]? =w.heap[b]?):eO X w' ρ' s x:=by
 cases s<;>cases x<;>try exact h
 rename_i c b
 obtain⟨cs,ty,e,h1,h2⟩:=h
 exact⟨cs,ty,by rw[hb b rfl];exact e,h1,fun q hq=>(h2 q hq).mono m⟩
theorem bN.draw (w:World) (ρ:Rho) (n:Nat):bN w ρ {w with drawn:=n} ρ:=
 ⟨fun _ _ _=>rfl,fun _ _=>rfl,Nat.le_refl _,fun _ h=>h,fun _ h=> .inl h,fun _ _ h=> .inl h,fun id _ h=> .inl ⟨id,h⟩⟩
theorem Mem.draw {w0 w:World} {M:Nat→Prop} {h:List aV} {ρ:Rho} (m:Mem X w0 M h ρ w) (n:Nat):Mem X w0 M h ρ {w with drawn:=n}:=
 ⟨fun id=>(m.slot id).mono (bN.draw w ρ n) fun _ _=>rfl,m.inj,m.own,m.os,m.tape,m.output,m.size,m.keep,m.foreign⟩
theorem Mem.reserve {w0 w:World} {M:Nat→Prop} {h:List aV} {ρ:Rho} (m:Mem X w0 M h ρ w) (n:Nat):Mem X w0 M (h++List.replicate n .unborn) ρ w:=by
 refine⟨fun id=> ?_,m.inj,m.own,m.os,m.tape,m.output,m.size,m.keep,m.foreign⟩
 have hs:=m.slot id
 have:Heap.get (h++List.replicate n .unborn) id=Heap.get h id:=by
  unfold Heap.get
  rw[List.getD_eq_getElem?_getD,List.getD_eq_getElem?_getD,List.getElem?_append]
  split
  ·rfl
  ·rename_i hlt
   rw[List.getElem?_eq_none (Nat.le_of_not_lt hlt),List.getElem?_replicate]
   split<;>rfl
 rw[this];exact hs
theorem Mem.kill {w0 w:World} {M:Nat→Prop} {h:List aV} {ρ:Rho} (m:Mem X w0 M h ρ w) {id:Nat} (hid:Heap.get h id≠ .unborn):
  bN w ρ w (upd ρ id .dead)∧Mem X w0 M (h.set id .dead) (upd ρ id .dead) w:=by
 have hlt:=Heap.lt_of_live hid
 have hne:ρ id≠ .unborn:=fun e=>by
  have hs:=m.slot id;rw[e]at hs
  cases hg:Heap.get h id<;>rw[hg]at hs<;>first|exact hid hg|exact hs.elim
 have hmono:bN w ρ w (upd ρ id .dead):=by
  refine⟨fun _ _ _=>rfl,fun _ _=>rfl,Nat.le_refl _,fun j hj=> ?_,fun j hj=> ?_,fun j b hj=> ?_,fun j b hj=> ?_⟩
  ·by_cases e:j=id
   ·subst e;exact aW _ _ _
   ·rw[bK _ _ e];exact hj
  ·by_cases e:j=id
   ·subst e;exact .inr (aW _ _ _)
   ·rw[bK _ _ e];exact .inl hj
  ·by_cases e:j=id
   ·subst e;exact .inr (aW _ _ _)
   ·rw[bK _ _ e];exact .inl hj
  ·by_cases e:j=id
   ·subst e;rw[aW]at hj;cases hj
   ·rw[bK _ _ e]at hj;exact .inl ⟨j,hj⟩
 refine⟨hmono,⟨fun j=> ?_,fun i j b hi hj=> ?_,fun j b hj=> ?_,m.os,m.tape,m.output,m.size,m.keep,m.foreign⟩⟩
 ·rw[Heap.get_set]
  by_cases e:j=id
  ·subst e;rw[if_pos ⟨rfl,hlt⟩,aW];trivial
  ·rw[if_neg (fun x=>e x.1),bK _ _ e];exact(m.slot j).mono hmono fun _ _=>rfl
 ·by_cases e:i=id
  ·subst e;rw[aW]at hi;cases hi
  ·by_cases e':j=id
   ·subst e';rw[aW]at hj;cases hj
   ·rw[bK _ _ e]at hi;rw[bK _ _ e']at hj;exact m.inj i j b hi hj
 ·by_cases e:j=id
  ·subst e;rw[aW]at hj;cases hj
  ·rw[bK _ _ e]at hj;exact m.own j b hj
theorem Mem.alloc {w0 w:World} {M:Nat→Prop} {h:List aV} {ρ:Rho} (m:Mem X w0 M h ρ w) {id:Nat} (hid:Heap.get h id=.unborn) (hlt:id<h.length)
  (c:Con) (cs:Array Value) (ty:TypeId) (hsz:c.size≤cs.size) (hc: ∀q,q<c.size→CR X w ρ (c.cell q) (cs.getD q undef)):
  bN w ρ {w with heap:=w.heap.push (.cells cs ty (0,0))} (upd ρ id (.row w.heap.size))∧
  Mem X w0 M (h.set id (.live c)) (upd ρ id (.row w.heap.size)) {w with heap:=w.heap.push (.cells cs ty (0,0))}:=by
 have hrho:ρ id=.unborn:=by
  have hs:=m.slot id;rw[hid]at hs
  cases hr:ρ id<;>rw[hr]at hs<;>first|rfl|exact hs.elim
 have hold: ∀b,b<w.heap.size→(w.heap.push (.cells cs ty (0,0)))[b]? =w.heap[b]? :=fun b hb=>by
  rw[Array.getElem?_push,if_neg (by omega)]
 have hmono:bN w ρ {w with heap:=w.heap.push (.cells cs ty (0,0))} (upd ρ id (.row w.heap.size)):=by
  refine⟨fun b hb _=>hold b hb,fun b hb=> ?_,by simp,fun j hj=> ?_,fun j hj=> ?_,fun j b hj=> ?_,fun j b hj=> ?_⟩
  ·unfold World.shape?;rw[hold b hb]
  ·rw[bK _ _ (fun e=>by subst e;rw[hrho]at hj;cases hj)];exact hj
  ·rw[bK _ _ (fun e=>by subst e;rw[hrho]at hj;cases hj)];exact .inl hj
  ·rw[bK _ _ (fun e=>by subst e;rw[hrho]at hj;cases hj)];exact .inl hj
  ·by_cases e:j=id
   ·subst e;rw[aW]at hj;injection hj with hj;exact .inr (by omega)
   ·rw[bK _ _ e]at hj;exact .inl ⟨j,hj⟩
 refine⟨hmono,⟨fun j=> ?_,fun i j b hi hj=> ?_,fun j b hj=> ?_,m.os,m.tape,m.output,by have:=m.size;simp;omega,fun k hk hM=> ?_,m.foreign⟩⟩
 ·rw[Heap.get_set]
  by_cases e:j=id
  ·subst e;rw[if_pos ⟨rfl,hlt⟩,aW]
   exact⟨cs,ty,by simp,hsz,fun q hq=>(hc q hq).mono hmono⟩
  ·rw[if_neg (fun x=>e x.1),bK _ _ e]
   exact(m.slot j).mono hmono fun b hb=>hold b (m.lt hb)
 ·by_cases e:i=id
  ·subst e;rw[aW]at hi;injection hi with hi
   by_cases e':j=i
   ·exact e'.symm
   ·rw[bK _ _ e']at hj;have:=m.lt hj;omega
  ·by_cases e':j=id
   ·subst e';rw[aW]at hj;injection hj with hj;rw[bK _ _ e]at hi;have:=m.lt hi;omega
   ·rw[bK _ _ e]at hi;rw[bK _ _ e']at hj;exact m.inj i j b hi hj
 ·by_cases e:j=id
  ·subst e;rw[aW]at hj;injection hj with hj;have:=m.size;exact .inl (by omega)
  ·rw[bK _ _ e]at hj;exact m.own j b hj
 ·have:=m.size
  rw[←m.keep k hk hM];exact hold k (by omega)
theorem Mem.push {w0 w:World} {M:Nat→Prop} {h:List aV} {ρ:Rho} (m:Mem X w0 M h ρ w) (o:Obj):
  bN w ρ {w with heap:=w.heap.push o} ρ∧Mem X w0 M h ρ {w with heap:=w.heap.push o}:=by
 have hold: ∀b,b<w.heap.size→(w.heap.push o)[b]? =w.heap[b]? :=fun b hb=>by
  rw[Array.getElem?_push,if_neg (by omega)]
 have hmono:bN w ρ {w with heap:=w.heap.push o} ρ:=by
  refine⟨fun b hb _=>hold b hb,fun b hb=> ?_,by simp,fun _ h=>h,fun _ h=> .inl h,fun _ _ h=> .inl h,fun id _ h=> .inl ⟨id,h⟩⟩
  unfold World.shape?;rw[hold b hb]
 exact⟨hmono,⟨fun j=>(m.slot j).mono hmono fun b hb=>hold b (m.lt hb),m.inj,m.own,m.os,m.tape,m.output,by have:=m.size;simp;omega,fun k hk hM=>by
  show(w.heap.push o)[k]? =_
  rw[hold k (by have:=m.size;omega)];exact m.keep k hk hM,m.foreign⟩⟩
theorem Mem.allocNil {w0 w:World} {M:Nat→Prop} {h:List aV} {ρ:Rho} (m:Mem X w0 M h ρ w) {id:Nat} (hid:Heap.get h id=.unborn) (hlt:id<h.length)
  (c:Con) (hsz:c.size=0):bN w ρ w (upd ρ id .nil)∧Mem X w0 M (h.set id (.live c)) (upd ρ id .nil) w:=by
 have hrho:ρ id=.unborn:=by
  have hs:=m.slot id;rw[hid]at hs
  cases hr:ρ id<;>rw[hr]at hs<;>first|rfl|exact hs.elim
 have hmono:bN w ρ w (upd ρ id .nil):=by
  refine⟨fun b hb _=>rfl,fun b hb=>rfl,Nat.le_refl _,fun j hj=> ?_,fun j hj=> ?_,fun j b hj=> ?_,fun j b hj=> ?_⟩
  ·rw[bK _ _ (fun e=>by subst e;rw[hrho]at hj;cases hj)];exact hj
  ·rw[bK _ _ (fun e=>by subst e;rw[hrho]at hj;cases hj)];exact .inl hj
  ·rw[bK _ _ (fun e=>by subst e;rw[hrho]at hj;cases hj)];exact .inl hj
  ·by_cases e:j=id
   ·subst e;rw[aW]at hj;cases hj
   ·rw[bK _ _ e]at hj;exact .inl ⟨j,hj⟩
 refine⟨hmono,⟨fun j=> ?_,fun i j b hi hj=> ?_,fun j b hj=> ?_,m.os,m.tape,m.output,m.size,m.keep,m.foreign⟩⟩
 ·rw[Heap.get_set]
  by_cases e:j=id
  ·subst e;rw[if_pos ⟨rfl,hlt⟩,aW];exact hsz
  ·rw[if_neg (fun x=>e x.1),bK _ _ e]
   exact(m.slot j).mono hmono fun b hb=>rfl
 ·by_cases e:i=id
  ·subst e;rw[aW]at hi;cases hi
  ·by_cases e':j=id
   ·subst e';rw[aW]at hj;cases hj
   ·rw[bK _ _ e]at hi;rw[bK _ _ e']at hj;exact m.inj i j b hi hj
 ·by_cases e:j=id
  ·subst e;rw[aW]at hj;cases hj
  ·rw[bK _ _ e]at hj;exact m.own j b hj
theorem Mem.write {w0 w:World} {M:Nat→Prop} {h:List aV} {ρ:Rho} (m:Mem X w0 M h ρ w) {id b:Nat} (hb:ρ id=.row b)
  (c':Con) (cs cs':Array Value) (ty:TypeId) (hrow:w.heap[b]? =some (.cells cs ty (0,0))) (hcs:cs'.size=cs.size)
  (hsz:c'.size≤cs'.size) (hc: ∀q,q<c'.size→CR X w ρ (c'.cell q) (cs'.getD q undef)):
  bN w ρ (w.setRow b cs') ρ∧Mem X w0 M (h.set id (.live c')) ρ (w.setRow b cs'):=by
 have hnew:=setRow_heap w b cs cs' ty (0,0) hrow
 have hsh: ∀k,(w.setRow b cs').shape? k=w.shape? k:=fun k=>by
  unfold World.shape?
  by_cases e:k=b
  ·subst e;rw[hnew,hrow];simp[hcs]
  ·rw[setRow_other w b k cs' e]
 have hmono:bN w ρ (w.setRow b cs') ρ:=
  ⟨fun k hk hl=>setRow_other w b k cs' (fun e=>hl (by subst e;exact⟨id,hb⟩)),fun k _=>hsh k,by simp,fun _ h=>h,fun _ h=> .inl h,fun _ _ h=> .inl h,fun j _ h=> .inl ⟨j,h⟩⟩
 have hidl:id<h.length:=Heap.lt_of_live (fun e=>by have hs:=m.slot id;rw[e,hb]at hs;exact hs)
 refine⟨hmono,⟨fun j=> ?_,m.inj,m.own,m.os,m.tape,m.output,by have:=m.size;simpa using this,fun k hk hM=> ?_,m.foreign⟩⟩
 ·rw[Heap.get_set]
  by_cases e:j=id
  ·subst e;rw[if_pos ⟨rfl,hidl⟩,hb]
   exact⟨cs',ty,hnew,hsz,fun q hq=>(hc q hq).mono hmono⟩
  ·rw[if_neg (fun x=>e x.1)]
   exact(m.slot j).mono hmono fun k hk=>setRow_other w b k cs' (fun e'=>e (m.inj j id b (by rw[hk,e']) hb))
 ·rw[←m.keep k hk hM]
  refine setRow_other w b k cs' (fun e=> ?_)
  subst e
  rcases m.own id k hb with h'|h'
  ·omega
  ·exact hM h'
end
section
variable {X : Nat → Prop}
def zcB:Value→aI→Bool
 |.int k n,.int k' n'=>decide (k=k')&&decide (n=n')
 |.bool b,.bool b'=>b==b'
 |.string s,.str s'=>s.data.toList==s'.data.toList
 |.pointer none,.nilp=>true
 |.slice none 0 0,.nils=>true
 |.nilFunc,.nilf=>true
 |v,.any=>v.oneCell'
 |_,_=>false
theorem JN {w:World} {ρ:Rho} {v:Value} {c:aI} (h:zcB v c=true):CR X w ρ c v:=by
 unfold zcB at h
 split at h
 ·simp at h;obtain⟨rfl,rfl⟩:=h;exact .int _ _
 ·simp at h;subst h;exact .bool _
 ·rename_i s s'
  have e:s=s':=by
   have:=eq_of_beq h
   cases s;cases s';simp at this;simp[this]
  subst e;exact .str _
 ·exact .nilp
 ·exact .nils
 ·exact .nilf
 ·exact .any _ h
 ·cases h
def zsB:List Value→List aI→Bool
 |[],[]=>true
 |v::r,c::s=>zcB v c&&zsB r s
 |_,_=>false
theorem pW {w:World} {ρ:Rho}: ∀ {l:List Value} {s:List aI},zsB l s=true→l.length=s.length∧ ∀i,i<s.length→CR X w ρ (s.getD i .any) (l.getD i undef)
 |[],[],_=>⟨rfl,fun i hi=>absurd hi (by simp)⟩
 |v::r,c::s,h=>by
  simp only[zsB,Bool.and_eq_true,rpS]at h
  obtain⟨h1,h2⟩:=pW (w:=w) (ρ:=ρ) h.2
  refine⟨by simp[h1],fun i hi=> ?_⟩
  cases i with
  |zero=>simpa using JN h.1
  |succ i=>simpa using h2 i (by simpa using hi)
 |[],_::_,h=>by simp[zsB]at h
 |_::_,[],h=>by simp[zsB]at h
def M5:Value→Bool
 |.agg _=>true
 |_=>false
def fH (P:Program):TypeDesc→TD→Bool→Bool
 |.int k,.int k',a=>decide (k=k')&& !a
 |.bool,.bool,a=> !a
 |.string,.str,a=> !a
 |.slice e,.slice e',a=>decide (e=e')&& !a
 |.array n e,.arr n' e',a=>decide (n=n')&&decide (e=e')&&a
 |.struct fs,.struct l,a=>decide (fs.toList.map (fun f=>(f.offset,f.type))=l)&&a&&fs.toList.all fun f=>decide (((P.info? f.type).map (·.size)).getD 0≠0)
 |.pointer e,.ptr e',a=>decide (e=e')&& !a
 |.struct _,.other,a=>a
 |.array ..,.other,a=>a
 |_,.other,a=> !a
 |_,_,_=>false
def M6:Option TypeDesc→Bool
 |some (.int _)=>true
 |_=>false
def LY (P:Program) (n:Nat):Nat→List Field→Bool
 |i,[]=>decide (i=n)
 |i,f::r=>(f.name != "_")&&(decide (f.offset=i)&&(M6 (P.underlying f.type)&&LY P n (i+1) r))
def UA (P:Program) (t n:Nat):Bool:= !P.stoodInHeld t&&(!P.eqGuardType P.depth t&&((match P.underlying t with|some (.struct _)=>true|_=>false)&&LY P n 0 (P.fieldsOf t).toList))
def tiB (P:Program) (t:Nat) (ti:TI):Bool:=
 match P.info? t,P.underlying t with
 |some i,some d=>
  match i.zero with
  |some z=>decide (i.size=ti.size)&&decide (i.bytes=ti.bytes)&&zsB z.cells.toList ti.zero&&decide (ti.zero.length=ti.size)&&(M5 z==ti.agg)&&fH P d ti.desc ti.agg&&(!ti.eqs||UA P t ti.size)
  |none=>false
 |_,_=>false
structure iJ (P:Program) (t:Nat) (ti:TI) (i:TypeInfo) (z:Value) (d:TypeDesc):Prop where
 info:P.info? t=some i
 und:P.underlying t=some d
 zero:i.zero=some z
 size:i.size=ti.size
 bytes:i.bytes=ti.bytes
 zs:zsB z.cells.toList ti.zero=true
 zl:ti.zero.length=ti.size
 zagg:M5 z=ti.agg
 desc:fH P d ti.desc ti.agg=true
 eqs:(!ti.eqs||UA P t ti.size)=true
theorem JG {P:Program} {t:Nat} {ti:TI} (h:tiB P t ti=true): ∃i z d,iJ P t ti i z d:=by
 unfold tiB at h
 split at h
 ·rename_i i d h1 h2
  split at h
  ·rename_i z hz
   simp only[Bool.and_eq_true,rpS,decide_eq_true_eq,beq_iff_eq]at h
   obtain⟨⟨⟨⟨⟨⟨a,b⟩,c⟩,d'⟩,e⟩,f⟩,g⟩:=h
   exact⟨i,z,d,⟨h1,h2,hz,a,b,c,d',e,f,g⟩⟩
  ·cases h
 ·cases h
def ttB (P:Program):Tab→Nat→Bool
 |[],_=>true
 |none::r,t=>ttB P r (t+1)
 |some ti::r,t=>tiB P t ti&&ttB P r (t+1)
def iK (P:Program) (tt:Tab):Prop:= ∀t ti,tt.ti t=some ti→ ∃i z d,iJ P t ti i z d
theorem pQ {P:Program}: ∀ {tt:Tab} {k:Nat},ttB P tt k=true→ ∀t ti,tt.ti t=some ti→ ∃i z d,iJ P (k+t) ti i z d
 |[],k,_,t,ti,h=>by simp[Tab.ti]at h
 |none::r,k,hb,t,ti,h=>by
  cases t with
  |zero=>simp[Tab.ti]at h
  |succ t=>
   have:=pQ (k:=k+1) hb t ti (by simpa [Tab.ti]using h)
   rwa[show k+1+t=k+(t+1)from by omega]at this
 |some x::r,k,hb,t,ti,h=>by
  simp only[ttB,Bool.and_eq_true,rpS]at hb
  cases t with
  |zero=>
   have:x=ti:=by simpa [Tab.ti]using h
   subst this;exact JG hb.1
  |succ t=>
   have:=pQ (k:=k+1) hb.2 t ti (by simpa [Tab.ti]using h)
   rwa[show k+1+t=k+(t+1)from by omega]at this
theorem RA {P:Program} {tt:Tab} (h:ttB P tt 0=true):iK P tt:=fun t ti e=>by
 simpa using pQ h t ti e
theorem AVR.cells {w:World} {ρ:Rho} {x:AV} {v:Value} {l:List aI} (h:AVR X w ρ x v) (hx:cellsOf x=some l):
  v.cells.size=l.length∧(∀i,i<l.length→CR X w ρ (l.getD i .any) (v.cells.getD i undef))∧ ∀u∈v.cells.toList,u.oneCell'=true:=by
 have all: ∀(l:List aI) (vs:Array Value),vs.size=l.length→(∀i,i<l.length→CR X w ρ (l.getD i .any) (vs.getD i undef))→ ∀u∈vs.toList,u.oneCell'=true:=by
  intro l vs hs h u hu
  obtain⟨i,hi,rfl⟩:=List.getElem_of_mem hu
  have hi':i<vs.size:=by simpa using hi
  have:=(h i (by omega)).one
  simpa [Array.getD,hi']using this
 cases h with
 |any v=>simp[cellsOf]at hx
 |c x v h=>
  simp[cellsOf]at hx;subst hx
  have e:v.cells= #[v]:=by cases h<;>first|rfl|(rename_i h1;cases v<;>first|rfl|(simp[Value.oneCell']at h1))
  rw[e]
  refine⟨rfl,fun i hi=> ?_,fun u hu=>by simp at hu;subst hu;exact h.one⟩
  obtain rfl:i=0:=by simpa using hi
  simpa using h
 |agg cs vs hs h=>
  simp[cellsOf]at hx;subst hx
  exact⟨hs,h,all _ _ hs h⟩
 |tup l vs hs h=>simp[cellsOf]at hx
theorem iD (f:Nat→aI): ∀m q,(mI f m q).length=m
 |0,_=>rfl
 |m+1,q=>by simp[mI,iD f m]
theorem qJ (f:Nat→aI): ∀m q i,i<m→(mI f m q).getD i .any=f (q+i)
 |0,_,i,h=>absurd h (by omega)
 |m+1,q,0,_=>by simp[mI]
 |m+1,q,i+1,h=>by
  have:=qJ f m (q+1) i (by omega)
  simp only[mI,List.getD_cons_succ,this]
  congr 1;omega
theorem yO {i es j m n q:Nat} (h:inB i es j m n=true) (hq:q<m):i*es+(j+q)<n:=by
 unfold inB at h
 split at h
 ·simp[dI]at h;omega
 ·simp[dI]at h;omega
theorem tP {c:Con} {i es j m:Nat} (h:c.has i es j m=true) {q:Nat} (hq:q<m):i*es+(j+q)<c.size∧c.get i es (j+q)=c.cell (i*es+(j+q)):=by
 cases c with
 |recs e n f=>
  simp only[Con.has,Bool.and_eq_true,rpS,decide_eq_true_eq,beq_iff_eq]at h
  obtain⟨⟨he,hi⟩,hj⟩:=h
  subst he
  have h1:j+q<e:=by omega
  refine⟨?_, ?_⟩
  ·simp only[Con.size]
   have h2:(i+1)*e≤n*e:=Nat.mul_le_mul_right _ hi
   rw[Nat.add_mul,Nat.one_mul]at h2;omega
  ·simp only[Con.get,Con.cell,beq_self_eq_true,cond_true]
   have d:(i*e+(j+q))/e=i:=by
    rw[Nat.add_comm,Nat.add_mul_div_right _ _ (by omega),Nat.div_eq_of_lt h1];omega
   have m:(i*e+(j+q))%e=j+q:=by
    rw[Nat.add_comm,Nat.add_mul_mod_self_right,Nat.mod_eq_of_lt h1]
   rw[d,m]
 |typ τ xs=>
  simp only[Con.has,Bool.and_eq_true,rpS,decide_eq_true_eq,beq_iff_eq]at h
  obtain⟨⟨he,hi⟩,hj⟩:=h
  subst he
  have h1:j+q<τ.es:=by omega
  refine⟨?_, ?_⟩
  ·simp only[Con.size]
   have h2:(i+1)*τ.es≤xs.length*τ.es:=Nat.mul_le_mul_right _ hi
   rw[Nat.add_mul,Nat.one_mul]at h2;omega
  ·simp only[Con.get,Con.cell,beq_self_eq_true,cond_true]
   have d:(i*τ.es+(j+q))/τ.es=i:=by
    rw[Nat.add_comm,Nat.add_mul_div_right _ _ (by omega),Nat.div_eq_of_lt h1];omega
   have m:(i*τ.es+(j+q))%τ.es=j+q:=by
    rw[Nat.add_comm,Nat.add_mul_mod_self_right,Nat.mod_eq_of_lt h1]
   rw[d,m]
 |ints k xs=>exact⟨yO h hq,by simp only[Con.get,dI]⟩
 |bools bs=>exact⟨yO h hq,by simp only[Con.get,dI]⟩
 |ivs k xss=>exact⟨yO h hq,by simp only[Con.get,dI]⟩
 |cells cs=>exact⟨yO h hq,by simp only[Con.get,dI]⟩
theorem g6 {α:Type} (l:List α) (p q:Nat) (x d:α) (hp:p<l.length):(l.set p x).getD q d=if q=p then x else l.getD q d:=by
 rw[List.getD_eq_getElem?_getD,List.getD_eq_getElem?_getD,List.getElem?_set]
 by_cases e:p=q
 ·subst e;simp[hp]
 ·have: ¬q=p:=fun e'=>e e'.symm
  simp[e,this]
theorem vC {w:World} {ρ:Rho} {nl:Option Bool} {k:IntKind} {xs:List Int} {len:Nat} {cap:Option Nat} {v:Value}
  (h:CR X w ρ (.view nl (.ints k xs) len 1 cap) v):CR X w ρ (.view none (.ints k xs) xs.length 1 none) v:=by
 cases h with
 |view _ _ _ _ _ b base kk u hl hc hu hz hk hcap hnl=>
  simp[Con.size]at hz;subst hz
  exact .view none _ _ 1 none b base kk u hl hc hu (by simp[Con.size]) hk (fun _ h=>by cases h) (fun _ h=>by cases h)
 |viewNone _ _ _ _ a k' hz hcap hnl hk=>
  have:xs=[]:=by simpa [Con.size]using hz
  subst this
  exact .viewNone none _ 1 none a k' rfl (fun _ h=>by cases h) (fun _ h=>by cases h) hk
theorem MK {w:World} {ρ:Rho} {c c':Con} {i es j:Nat} {x:aI} {v:Value} (h:c.put i es j x=some c') (hx:CR X w ρ x v) (hp:i*es+j<c.size):
  c'.size=c.size∧(∀q,q≠i*es+j→c'.cell q=c.cell q)∧CR X w ρ (c'.cell (i*es+j)) v:=by
 unfold Con.put at h
 split at h
 ·split at h
  ·rename_i k xs k' n hk
   injection h with h;subst h;subst hk
   refine⟨by simp[Con.size],fun q hq=> ?_, ?_⟩
   ·simp only[Con.cell,dI];rw[g6 _ _ _ _ _ hp,if_neg hq]
   ·simp only[Con.cell,dI];rw[g6 _ _ _ _ _ hp,if_pos rfl];exact hx
  ·cases h
 ·injection h with h;subst h
  refine⟨by simp[Con.size],fun q hq=> ?_, ?_⟩
  ·simp only[Con.cell,dI];rw[g6 _ _ _ _ _ hp,if_neg hq]
  ·simp only[Con.cell,dI];rw[g6 _ _ _ _ _ hp,if_pos rfl];exact hx
 ·split at h
  ·rename_i k xss nl k' xs len cap hk
   injection h with h;subst h;subst hk
   refine⟨by simp[Con.size],fun q hq=> ?_, ?_⟩
   ·simp only[Con.cell,dI];rw[g6 _ _ _ _ _ hp,if_neg hq]
   ·simp only[Con.cell,dI];rw[g6 _ _ _ _ _ hp,if_pos rfl];exact vC hx
  ·cases h
 ·injection h with h;subst h
  refine⟨by simp[Con.size],fun q hq=> ?_, ?_⟩
  ·simp only[Con.cell,dI];rw[g6 _ _ _ _ _ hp,if_neg hq]
  ·simp only[Con.cell,dI];rw[g6 _ _ _ _ _ hp,if_pos rfl];exact hx
 ·cases h
theorem f7 {w:World} {ρ:Rho} {i es:Nat}: ∀ {l:List aI} {c c':Con} {j:Nat} {cs:Array Value} {vs:List Value},c.putsC i es j l=some c'→vs.length=l.length→
  (∀q,q<l.length→CR X w ρ (l.getD q .any) (vs.getD q undef))→i*es+j+l.length≤c.size→c.size≤cs.size→(∀q,q<c.size→CR X w ρ (c.cell q) (cs.getD q undef))→
  c'.size=c.size∧ ∀q,q<c.size→CR X w ρ (c'.cell q) ((cs.toList.take (i*es+j)++vs++cs.toList.drop (i*es+j+vs.length)).toArray.getD q undef)
 |[],c,c',j,cs,vs,h,hv,hx,hp,hs,hc=>by
  simp[Con.putsC]at h;subst h
  have:vs=[]:=by simpa using hv
  subst this
  refine⟨rfl,fun q hq=> ?_⟩
  simpa using hc q hq
 |x::l,c,c',j,cs,vs,h,hv,hx,hp,hs,hc=>by
  cases vs with
  |nil=>simp at hv
  |cons v vs=>
   simp only[Con.putsC]at h
   obtain⟨c1,h1,h2⟩:=Option.bind_eq_some_iff.1 h
   simp only[List.length_cons]at hp
   obtain⟨e1,e2,e3⟩:=MK h1 (by simpa using hx 0 (by simp)) (by omega)
   have hlt:i*es+j<cs.size:=by omega
   have:=f7 (w:=w) (ρ:=ρ) (cs:=cs.setIfInBounds (i*es+j) v) (vs:=vs) h2 (by simpa using hv)
    (fun q hq=>by have:=hx (q+1) (by simpa using hq);simpa using this) (by rw[e1];omega) (by rw[e1];simpa using hs) (fun q hq=>by
     rw[e1]at hq
     by_cases e:q=i*es+j
     ·subst e;simpa [Array.getD,hlt]using e3
     ·rw[e2 q e]
      have:=hc q hq
      rw[Array.getD_eq_getD_getElem?]at this⊢
      rw[Array.getElem?_setIfInBounds_ne (fun e'=>e e'.symm)]
      exact this)
   refine⟨this.1.trans e1,fun q hq=> ?_⟩
   have h3:=this.2 q (by rw[e1];exact hq)
   have e:=list_seg_step cs.toList (i*es+j) v vs (by simp at hv⊢;omega)
   simp only[Array.toList_setIfInBounds]at h3
   rw[show i*es+(j+1)=i*es+j+1 from by omega]at h3
   rw[e]at h3
   simpa [Nat.add_assoc,Nat.add_comm 1]using h3
theorem pT {w:World} {ρ:Rho} {x:aI} {xs:List Int} {v:Value} (h:viI x=some xs) (hx:CR X w ρ x v):CR X w ρ (.view none (.ints .i64 xs) xs.length 1 none) v:=by
 unfold viI at h
 split at h
 ·injection h with h;subst h;exact vC hx
 ·injection h with h;subst h
  cases hx
  exact .viewNone none _ 1 none none 0 rfl (fun _ h=>by cases h) (fun _ h=>by cases h) (fun _=>rfl)
 ·cases h
theorem JL {w:World} {ρ:Rho} {x:aI} {xs:List Bool} {v:Value} (h:viB x=some xs) (hx:CR X w ρ x v):CR X w ρ (.view none (.bools xs) xs.length 1 none) v:=by
 unfold viB at h
 split at h
 ·rename_i nl ys len cap
  injection h with h;subst h
  cases hx with
  |view _ _ _ _ _ b base kk u hl hc hu hz hk hcap hnl=>
   simp[Con.size]at hz;subst hz
   exact .view none _ _ 1 none b base kk u hl hc hu (by simp[Con.size]) hk (fun _ h=>by cases h) (fun _ h=>by cases h)
  |viewNone _ _ _ _ a k' hz hcap hnl hk=>
   have:ys=[]:=by simpa [Con.size]using hz
   subst this
   exact .viewNone none _ 1 none a k' rfl (fun _ h=>by cases h) (fun _ h=>by cases h) hk
 ·injection h with h;subst h
  cases hx
  exact .viewNone none _ 1 none none 0 rfl (fun _ h=>by cases h) (fun _ h=>by cases h) (fun _=>rfl)
 ·cases h
theorem JM {w:World} {ρ:Rho} {x:aI} {xs:List PK} {v:Value} (h:viP x=some xs) (hx:CR X w ρ x v):CR X w ρ (.view none (.typ .pk xs) xs.length 8 none) v:=by
 unfold viP at h
 split at h
 ·rename_i nl ys len cap
  injection h with h;subst h
  cases hx with
  |view _ _ _ _ _ b base kk u hl hc hu hz hk hcap hnl=>
   have hz:len*8=ys.length*8:=hz
   have:len=ys.length:=by omega
   subst this
   exact .view none _ _ 8 none b base kk u hl hc hu hz hk (fun _ h=>by cases h) (fun _ h=>by cases h)
  |viewNone _ _ _ _ a k' hz hcap hnl hk=>
   have hz:ys.length*8=0:=hz
   have:ys=[]:=List.eq_nil_of_length_eq_zero (by omega)
   subst this
   exact .viewNone none _ 8 none a k' rfl (fun _ h=>by cases h) (fun _ h=>by cases h) hk
 ·injection h with h;subst h
  cases hx
  exact .viewNone none _ 8 none none 0 rfl (fun _ h=>by cases h) (fun _ h=>by cases h) (fun _=>rfl)
 ·cases h
theorem Ty.cells_len (τ:Ty) (x:τ.car):(τ.cells x).length=τ.es:=by cases τ<;>rfl
theorem Ty.es_pos (τ:Ty):0<τ.es:=by cases τ<;>decide
theorem Ty.of_len {τ:Ty} {l:List aI} {y:τ.car} (h:τ.of l=some y):l.length=τ.es:=by
 cases τ with
 |str=>have h:BI l=some y:=h;unfold BI at h;split at h<;>first|rfl|cases h
 |pk=>have h:ME l=some y:=h;unfold ME at h;split at h<;>first|rfl|cases h
 |itm=>have h:BH l=some y:=h;unfold BH at h;split at h<;>first|rfl|cases h
 |evt=>have h:BG l=some y:=h;unfold BG at h;split at h<;>first|rfl|cases h
theorem Ty.of_sound {w:World} {ρ:Rho} {τ:Ty} {l:List aI} {y:τ.car} {vs:List Value} (h:τ.of l=some y) (hx: ∀q,q<l.length→CR X w ρ (l.getD q .any) (vs.getD q undef)):
  l.length=τ.es∧ ∀q,q<τ.es→CR X w ρ ((τ.cells y).getD q .any) (vs.getD q undef):=by
 cases τ with
 |str=>
  have h:BI l=some y:=h
  unfold BI at h
  split at h
  ·rename_i s
   injection h with h;subst h
   exact⟨rfl,fun q hq=>hx q hq⟩
  ·cases h
 |pk=>
  have h:ME l=some y:=h
  unfold ME at h
  split at h
  ·rename_i k va vb vc on kd vd vs'
   split at h
   ·rename_i a b c d ha hb hc hd
    injection h with h;subst h
    refine⟨rfl,fun q hq=> ?_⟩
    have hx:=hx q hq
    match q,hq with
    |0,_=>exact hx
    |1,_=>exact pT ha hx
    |2,_=>exact pT hb hx
    |3,_=>exact JL hc hx
    |4,_=>exact hx
    |5,_=>exact hx
    |6,_=>exact pT hd hx
    |7,_=>exact hx
   ·cases h
  ·cases h
 |itm=>
  have h:BH l=some y:=h
  unfold BH at h
  split at h
  ·rename_i s v
   obtain⟨ks,hk,h⟩:=Option.map_eq_some_iff.1 h
   subst h
   refine⟨rfl,fun q hq=> ?_⟩
   have hx:=hx q hq
   match q,hq with
   |0,_=>exact hx
   |1,_=>exact JM hk hx
  ·cases h
 |evt=>
  have h:BG l=some y:=h
  unfold BG at h
  split at h
  ·injection h with h;subst h
   exact⟨rfl,fun q hq=>hx q hq⟩
  ·cases h
theorem Ty.ofAll_sound {w:World} {ρ:Rho} {τ:Ty}: ∀ {n:Nat} {l:List aI} {ys:List τ.car} {vs:List Value},τ.ofAll n l=some ys→(∀q,q<l.length→CR X w ρ (l.getD q .any) (vs.getD q undef))→
  l.length=ys.length*τ.es∧ ∀q,q<ys.length*τ.es→CR X w ρ ((Con.typ τ ys).cell q) (vs.getD q undef)
 |n,[],ys,vs,h,hx=>by
  have:ys=[]:=by cases n<;>simpa [Ty.ofAll]using h.symm
  subst this
  exact⟨by simp,fun q hq=>by simp at hq⟩
 |0,x::l,ys,vs,h,hx=>by simp[Ty.ofAll]at h
 |n+1,x::l,ys,vs,h,hx=>by
  simp only[Ty.ofAll]at h
  split at h
  ·rename_i y r h1 h2
   injection h with h;subst h
   have hp:=τ.es_pos
   obtain⟨e1,e2⟩:=Ty.of_sound h1 (vs:=vs) (fun q hq=>by
    rw[List.length_take]at hq
    have:=hx q (by omega)
    rwa[List.getD_eq_getElem?_getD,List.getElem?_take,if_pos (by omega),←List.getD_eq_getElem?_getD])
   rw[List.length_take]at e1
   have hle:τ.es≤(x::l).length:=by omega
   obtain⟨g1,g2⟩:=Ty.ofAll_sound h2 (vs:=vs.drop τ.es) (fun q hq=>by
    rw[List.length_drop]at hq
    have:=hx (τ.es+q) (by omega)
    rw[List.getD_eq_getElem?_getD,List.getElem?_drop,List.getD_eq_getElem?_getD,List.getElem?_drop]
    rwa[List.getD_eq_getElem?_getD,List.getD_eq_getElem?_getD]at this)
   rw[List.length_drop]at g1
   refine⟨by rw[List.length_cons (as:=r),Nat.add_mul,Nat.one_mul,←g1];omega,fun q hq=> ?_⟩
   simp only[Con.cell]
   rcases Nat.lt_or_ge q τ.es with hq'|hq'
   ·rw[Nat.div_eq_of_lt hq',Nat.mod_eq_of_lt hq',List.getD_cons_zero]
    exact e2 q hq'
   ·obtain⟨q',rfl⟩: ∃q',q=τ.es+q':=⟨q-τ.es,by omega⟩
    rw[Nat.add_div_left _ hp,Nat.add_mod_left,List.getD_cons_succ]
    rw[List.length_cons,Nat.add_mul,Nat.one_mul]at hq
    have:=g2 q' (by omega)
    simp only[Con.cell]at this
    rwa[List.getD_eq_getElem?_getD (l:=vs.drop _),List.getElem?_drop,←List.getD_eq_getElem?_getD]at this
  ·cases h
theorem ER {w:World} {ρ:Rho} {i es:Nat} {l:List aI} {c c':Con} {j:Nat} {cs:Array Value} {vs:List Value} (h:c.puts i es j l=some c') (hv:vs.length=l.length)
  (hx: ∀q,q<l.length→CR X w ρ (l.getD q .any) (vs.getD q undef)) (hp:i*es+j+l.length≤c.size) (hs:c.size≤cs.size) (hc: ∀q,q<c.size→CR X w ρ (c.cell q) (cs.getD q undef)):
  c'.size=c.size∧ ∀q,q<c.size→CR X w ρ (c'.cell q) ((cs.toList.take (i*es+j)++vs++cs.toList.drop (i*es+j+vs.length)).toArray.getD q undef):=by
 cases c with
 |typ τ xs=>
  simp only[Con.puts]at h
  cases he:(τ.es==es)&&Nat.ble (j+l.length) τ.es with
  |false=>rw[he]at h;cases h
  |true=>
   rw[he,cond_true]at h
   rw[Bool.and_eq_true,beq_iff_eq]at he
   obtain⟨he,hj⟩:=he
   have hj:=Nat.le_of_ble_eq_true hj
   subst he
   split at h
   ·rename_i y hy
    injection h with h;subst h
    have hpos:=τ.es_pos
    have hcl:=τ.cells_len (xs.getD i τ.dflt)
    simp only[Con.size]at hp hs hc⊢
    have val: ∀q,(cs.toList.take (i*τ.es+j)++vs++cs.toList.drop (i*τ.es+j+vs.length)).toArray.getD q undef=(if q<i*τ.es+j then cs.getD q undef else if q<i*τ.es+j+vs.length then vs.getD (q-(i*τ.es+j)) undef else cs.getD q undef):=fun q=>by
     have hlen:(cs.toList.take (i*τ.es+j)).length=i*τ.es+j:=by rw[List.length_take,Array.length_toList];omega
     rw[Array.getD_eq_getD_getElem?,List.getElem?_toArray,List.append_assoc]
     by_cases h1:q<i*τ.es+j
     ·rw[if_pos h1,List.getElem?_append_left (by omega),List.getElem?_take,if_pos h1,Array.getD_eq_getD_getElem?,Array.getElem?_toList]
     ·rw[if_neg h1,List.getElem?_append_right (by omega),hlen]
      by_cases h2:q<i*τ.es+j+vs.length
      ·rw[if_pos h2,List.getElem?_append_left (by omega),List.getD_eq_getElem?_getD]
      ·rw[if_neg h2,List.getElem?_append_right (by omega),List.getElem?_drop,Array.getD_eq_getD_getElem?,←Array.getElem?_toList]
       congr 2;omega
    refine⟨by rw[List.length_set],fun q hq=> ?_⟩
    have hqi:q/τ.es<xs.length:=Nat.div_lt_of_lt_mul (by rw[Nat.mul_comm];exact hq)
    have hqe:q=q/τ.es*τ.es+q%τ.es:=by rw[Nat.mul_comm];exact(Nat.div_add_mod q τ.es).symm
    have hqm:=Nat.mod_lt q hpos
    simp only[Con.cell]
    rw[val]
    by_cases e:q/τ.es=i
    ·rw[e]at hqi hqe
     have old: ∀r,r<τ.es→CR X w ρ ((τ.cells (xs.getD i τ.dflt)).getD r .any) (cs.getD (i*τ.es+r) undef):=fun r hr=>by
      have h2:(i+1)*τ.es≤xs.length*τ.es:=Nat.mul_le_mul_right _ hqi
      rw[Nat.add_mul,Nat.one_mul]at h2
      have:=hc (i*τ.es+r) (by omega)
      simp only[Con.cell]at this
      rwa[show(i*τ.es+r)/τ.es=i from by rw[Nat.add_comm,Nat.add_mul_div_right _ _ hpos,Nat.div_eq_of_lt hr];omega,show(i*τ.es+r)%τ.es=r from by rw[Nat.add_comm,Nat.add_mul_mod_self_right,Nat.mod_eq_of_lt hr]]at this
     let F:Nat→Value:=fun q=>if q<i*τ.es+j then cs.getD q undef else if q<i*τ.es+j+vs.length then vs.getD (q-(i*τ.es+j)) undef else cs.getD q undef
     have hL:((τ.cells (xs.getD i τ.dflt)).take j++(l++(τ.cells (xs.getD i τ.dflt)).drop (j+l.length))).length=τ.es:=by
      rw[List.length_append,List.length_append,List.length_take,List.length_drop,hcl];omega
     obtain⟨-,o2⟩:=Ty.of_sound (X:=X) (w:=w) (ρ:=ρ) (vs:=(List.range τ.es).map fun r=>F (i*τ.es+r)) hy (fun r hr=>by
      rw[hL]at hr
      have ev:((List.range τ.es).map fun r=>F (i*τ.es+r)).getD r undef=F (i*τ.es+r):=by
       rw[List.getD_eq_getElem?_getD,List.getElem?_map,List.getElem?_range hr];rfl
      rw[ev]
      have htl:((τ.cells (xs.getD i τ.dflt)).take j).length=j:=by rw[List.length_take,hcl];omega
      show CR X w ρ _ (if i*τ.es+r<i*τ.es+j then cs.getD (i*τ.es+r) undef else if i*τ.es+r<i*τ.es+j+vs.length then vs.getD (i*τ.es+r-(i*τ.es+j)) undef else cs.getD (i*τ.es+r) undef)
      rw[List.getD_eq_getElem?_getD]
      by_cases h1:r<j
      ·rw[if_pos (by omega),List.getElem?_append_left (by omega),List.getElem?_take,if_pos h1,←List.getD_eq_getElem?_getD]
       exact old r hr
      ·rw[if_neg (by omega),List.getElem?_append_right (by omega),htl]
       by_cases h2:r<j+l.length
       ·rw[if_pos (by omega),List.getElem?_append_left (by omega),←List.getD_eq_getElem?_getD,show i*τ.es+r-(i*τ.es+j)=r-j from by omega]
        exact hx (r-j) (by omega)
       ·rw[if_neg (by omega),List.getElem?_append_right (by omega),List.getElem?_drop,←List.getD_eq_getElem?_getD,show j+l.length+(r-j-l.length)=r from by omega]
        exact old r hr)
     rw[e,List.getD_eq_getElem?_getD (l:=xs.set i y),List.getElem?_set_self hqi,Option.getD_some]
     have:=o2 (q%τ.es) hqm
     have ev:((List.range τ.es).map fun r=>F (i*τ.es+r)).getD (q%τ.es) undef=F q:=by
      rw[List.getD_eq_getElem?_getD,List.getElem?_map,List.getElem?_range hqm]
      show F (i*τ.es+q%τ.es)=F q
      rw[←hqe]
     rw[ev]at this
     exact this
    ·have:(xs.set i y).getD (q/τ.es) τ.dflt=xs.getD (q/τ.es) τ.dflt:=by
      rw[List.getD_eq_getElem?_getD,List.getElem?_set_ne (fun h=>e h.symm),←List.getD_eq_getElem?_getD]
     rw[this]
     have hcq:=hc q hq
     simp only[Con.cell]at hcq
     by_cases h1:q<i*τ.es+j
     ·rw[if_pos h1];exact hcq
     ·rw[if_neg h1]
      by_cases h2:q<i*τ.es+j+vs.length
      ·exfalso
       apply e
       have:q<(i+1)*τ.es:=by rw[Nat.add_mul,Nat.one_mul];omega
       have a1:q/τ.es<i+1:=Nat.div_lt_of_lt_mul (by rw[Nat.mul_comm];exact this)
       have a2:i≤q/τ.es:=(Nat.le_div_iff_mul_le hpos).2 (by omega)
       omega
      ·rw[if_neg h2];exact hcq
   ·cases h
 |ints k xs=>exact f7 h hv hx hp hs hc
 |bools k=>exact f7 h hv hx hp hs hc
 |ivs k xs=>exact f7 h hv hx hp hs hc
 |recs e n f=>exact f7 h hv hx hp hs hc
 |cells cs=>exact f7 h hv hx hp hs hc
end
section
variable {X : Nat → Prop}
def Res (X:Nat→Prop) (P:Program) (w0:World) (M:Nat→Prop) (h:List aV) (ρ:Rho) (w:World) (eff:Eff) (s:Sem Value):Prop:=
 ∃v w' ρ',s.run P w=.ok v w'∧bN w ρ w' ρ'∧Mem X w0 M (cZ h eff.sets) ρ' w'∧AVR X w' ρ' eff.val v
section
variable {P : Program} {tt : Tab} (hT : iK P tt) {w0 w : World} {M : Nat → Prop} {h : List aV} {ρ : Rho} (m : Mem X w0 M h ρ w)
include m
theorem uO {x:AV} {o:List Bool} {v:Value} {e:Eff} (he:val x o=some e) (hx:AVR X w ρ x v):Res X P w0 M h ρ w e (pure v):=by
 injection he with he;subst he
 exact⟨v,w,ρ,rfl,bN.refl _ _,m,hx⟩
theorem gO {id i es j:Nat} {c:Con} {v:Value} (hs:Heap.get h id=.live c) (hx:CR X w ρ (.ptr id i es j) v):
  ∃b,ρ id=.row b∧v=.pointer (some ⟨b,i*es+j,none⟩)∧H0 X w ρ c b:=by
 have hm:=m.slot id
 rw[hs]at hm
 cases hx with
 |ptrDead _ _ _ _ v hd ho=>rw[hd]at hm;exact hm.elim
 |ptr _ _ _ _ b hb=>rw[hb]at hm;exact⟨b,hb,rfl,hm⟩
theorem dQ {id o len es:Nat} {cap:Option Nat} {c:Con} {v:Value} (hs:Heap.get h id=.live c) (hx:CR X w ρ (.sl id o len es cap) v):
  (∃b k ty n,ρ id=.row b∧v=.slice (some ⟨b,o*es,none⟩) len k∧H0 X w ρ c b∧w.shape? b=some (ty,n)∧(o+k)*es≤n∧len≤k∧mZ cap k)∨
  (∃a,v=.slice a 0 0∧len=0∧mZ cap 0):=by
 have hm:=m.slot id
 rw[hs]at hm
 cases hx with
 |slDead _ _ _ _ _ v hd ho=>rw[hd]at hm;exact hm.elim
 |sl _ _ _ _ _ b k ty n hb hsh hn hl hc=>rw[hb]at hm;exact .inl ⟨b,k,ty,n,hb,rfl,hm,hsh,hn,hl,hc⟩
 |slNone _ _ _ _ a h1 hc=>exact .inr ⟨a,rfl,rfl,hc⟩
omit m in
include hT in
theorem bR {t:Nat} {ti:TI} (ht:tt.ti t=some ti): ∃i z d,iJ P t ti i z d:=hT t ti ht
omit m in
theorem l4 {t:Nat} {ti:TI} {i:TypeInfo} {z:Value} {d:TypeDesc} (k:iJ P t ti i z d) (w:World):(isAgg t).run P w=.ok ti.agg w:=by
 have hd:=k.desc
 simp only[isAgg,Sem.run_bind,run_underlying k.und,Result.andThen_ok]
 generalize ti.agg=g at hd
 generalize ti.desc=e at hd
 cases d<;>cases e<;>cases g<;>first|rfl|(simp[fH]at hd;done)|(simp[fH]at hd)
omit m in
theorem bZ {t:Nat} {ti:TI} {i:TypeInfo} {z:Value} {d:TypeDesc} (k:iJ P t ti i z d) (w:World):(sizeOf t).run P w=.ok ti.size w:=by
 simp[sizeOf,typeInfo,k.info,k.size]
omit m in
theorem lU {t:Nat} {ti:TI} {i:TypeInfo} {z:Value} {d:TypeDesc} (k:iJ P t ti i z d) (w:World):(typeInfo t).run P w=.ok i w:=by
 simp[typeInfo,k.info]
omit m in
theorem gV {t:Nat} {ti:TI} {i:TypeInfo} {z:Value} {d:TypeDesc} (k:iJ P t ti i z d) (w:World):(zeroValue t).run P w=.ok z w:=by
 simp[zeroValue,typeInfo,k.info,k.zero]
omit m in
theorem dR (b o n:Nat):(⟨b,o,none⟩:Addr).add n=⟨b,o+n,none⟩:=by
 unfold Addr.add;split
 ·rename_i h;subst h;rfl
 ·rfl
omit m in
theorem EY (f:Nat→Value) (n q:Nat) (hq:q<n):(((List.range n).map f).toArray).getD q undef=f q:=by
 rw[Array.getD_eq_getD_getElem?];simp[hq]
include hT in
theorem u0 {get:Get} (hg: ∀id c,get id=.live c→Heap.get h id=.live c) {t:Nat} {x:AV} {v:Value} (hx:AVR X w ρ x v) {e:Eff}
  (he:AM tt get t x=some e) (ho: ∀b∈e.obl,b=true): ∃r,(Instr.loadAt t v).run P w=.ok r w∧AVR X w ρ e.val r∧e.sets=[]∧ ∃ad,v=.pointer (some ad):=by
 have core: ∀(ti:TI) (i:TypeInfo) (z:Value) (d:TypeDesc) (k:iJ P t ti i z d) (c:Con) (ii es j b base:Nat) (u:Nat→Value),
   (∀q,q<c.size→w.cell? ⟨b,base+q,none⟩=some (u q))→(∀q,q<c.size→CR X w ρ (c.cell q) (u q))→ ∀e:Eff,
   nH ti c ii es j=some e→(∀b∈e.obl,b=true)→
   ∃r,(Instr.loadAt t (.pointer (some ⟨b,base+(ii*es+j),none⟩))).run P w=.ok r w∧AVR X w ρ e.val r∧e.sets=[]∧ ∃ad,(.pointer (some ⟨b,base+(ii*es+j),none⟩):Value)=.pointer (some ad):=by
  intro ti i z d k c ii es j b base u hc hu e he ho
  unfold nH at he
  cases hag:ti.agg with
  |true=>
   rw[hag]at he
   injection he with he;subst he
   have hh:c.has ii es j ti.size=true:=ho _ (by simp)
   have hl:=run_loadCells (P:=P) w ⟨b,base+(ii*es+j),none⟩ ti.size (fun q=>u (ii*es+(j+q))) (fun q hq=>by
    rw[dR];have:=hc _ (tP hh hq).1;simpa [Nat.add_assoc]using this)
   refine⟨.agg ((List.range ti.size).map (fun q=>u (ii*es+(j+q)))).toArray, ?_, ?_,rfl,_,rfl⟩
   ·simp[Instr.loadAt,Instr.sureAddr,loadVar,l4 k,hag,bZ k,hl]
   ·refine .agg _ _ (by simp[iD]) fun q hq=> ?_
    rw[iD]at hq
    rw[qJ _ _ _ _ hq,EY _ _ _ hq]
    obtain⟨h1,h2⟩:=tP hh hq
    rw[h2];exact hu _ h1
  |false=>
   rw[hag]at he
   injection he with he;subst he
   have hh:c.has ii es j 1=true:=ho _ (by simp)
   obtain⟨h1,h2⟩:=tP hh (q:=0) (by omega)
   have hcell:=hc _ h1
   refine⟨u (ii*es+(j+0)), ?_, ?_,rfl,_,rfl⟩
   ·simp only[Nat.add_zero]at hcell
    simp[Instr.loadAt,Instr.sureAddr,loadVar,l4 k,hag,hcell]
   ·have:=hu _ h1
    rw[←h2]at this
    exact .c _ _ this
 unfold AM at he
 replace he:=Option.bind_eq_some_iff.1 he
 obtain⟨ti,hti,he⟩:=he
 obtain⟨i,z,d,k⟩:=bR hT hti
 split at he
 ·rename_i id ii es j
  split at he
  ·rename_i c hs
   cases hx with
   |c _ _ hx=>
    obtain⟨b,hb,rfl,cs,ty,hrow,hsz,hcs⟩:=gO m (hg _ _ hs) hx
    have:=core ti i z d k c ii es j b 0 (fun q=>cs.getD q undef) (fun q hq=>by
     have hq':q<cs.size:=by omega
     simp[World.cell?,hrow,Array.getD,hq']) hcs e he ho
    simpa using this
  ·cases he
 ·rename_i c ii es j
  cases hx with
  |c _ _ hx=>
   cases hx with
   |vptr _ _ _ _ b base u hl hc hu=>exact core ti i z d k c ii es j b base u hc (fun q hq=>(hu q hq).lift) e he ho
 ·cases he
include hT in
theorem MS {get:Get} (hg: ∀id c,get id=.live c→Heap.get h id=.live c) {t:Nat} {x:AV} {v:Value} (hx:AVR X w ρ x v) {e:Eff}
  (he:AM tt get t x=some e) (ho: ∀b∈e.obl,b=true):Res X P w0 M h ρ w e (Instr.loadAt t v):=by
 obtain⟨r,h1,h2,h3,_⟩:=u0 hT m hg hx he ho
 exact⟨r,w,ρ,h1,bN.refl _ _,by rw[h3];exact m,h2⟩
omit m in
theorem hX (h:List aV) (a b:List (Nat×aV)):cZ h (a++b)=cZ (cZ h a) b:=by
 induction a generalizing h with
 |nil=>rfl
 |cons x a ih=>obtain⟨i,s⟩:=x;simpa [cZ]using ih (h.set i s)
end
structure d7 (X:Nat→Prop) (w0:World) (M:Nat→Prop) (h:List aV) (ρ:Rho) (w:World) (sets:List (Nat×aV)) (ρ':Rho):Prop where
 mono:bN w ρ w ρ'
 mem:Mem X w0 M (cZ h sets) ρ' w
 other: ∀id,(∀s,(id,s)∉sets)→ρ' id=ρ id
theorem d7.nil {w0 w:World} {M:Nat→Prop} {h:List aV} {ρ:Rho} (m:Mem X w0 M h ρ w):d7 X w0 M h ρ w [] ρ:=⟨bN.refl _ _,m,fun _ _=>rfl⟩
theorem dN: ∀(sets:List (Nat×aV)) (h:List aV) (id:Nat),(∀s,(id,s)∉sets)→Heap.get (cZ h sets) id=Heap.get h id
 |[],h,id,_=>rfl
 |(i,s)::r,h,id,hn=>by
  simp only[cZ]
  rw[dN r _ id (fun s' hs'=>hn s' (List.mem_cons_of_mem _ hs')),Heap.get_set]
  rw[if_neg]
  rintro⟨e,_⟩
  subst e
  exact hn s (List.mem_cons_self)
theorem eJ: ∀(sets:List (Nat×aV)) (h:List aV),(cZ h sets).length=h.length
 |[],h=>rfl
 |(i,s)::r,h=>by simp[cZ,eJ r]
theorem nN: ∀ {a b:List Nat},cS (a++b)=true→cS b=true∧ ∀x∈a,x∉b
 |[],b,h=>⟨h,fun x hx=>by cases hx⟩
 |y::a,b,h=>by
  simp only[List.cons_append,cS,Bool.and_eq_true,rpS,Bool.not_eq_true']at h
  obtain⟨h1,h2⟩:=nN h.2
  refine⟨h1,fun x hx=> ?_⟩
  rcases List.mem_cons.1 hx with e|e
  ·subst e
   intro hb
   have:(a++b).elem x=true:=List.elem_eq_true_of_mem (List.mem_append_right _ hb)
   rw[h.1]at this;cases this
  ·exact h2 x e
theorem oW: ∀ {l:List aI},tQ l=[]→ ∀i,(l.getD i .any).ids=[]
 |[],_,i=>by simp[aI.ids]
 |x::l,h,i=>by
  simp only[tQ,List.append_eq_nil_iff]at h
  cases i with
  |zero=>simpa using h.1
  |succ i=>simpa using oW h.2 i
theorem Ty.cells_ids (τ:Ty) (x:τ.car):tQ (τ.cells x)=[]:=by
 cases τ<;>simp[Ty.cells,tQ,aI.ids]
theorem eM {c:Con} (h:c.free=true) (q:Nat):(c.cell q).ids=[]:=by
 cases c with
 |ints k xs=>simp[Con.cell,aI.ids]
 |bools bs=>simp[Con.cell,aI.ids]
 |ivs k xss=>simp[Con.cell,aI.ids]
 |typ τ xs=>
  simp only[Con.cell]
  exact oW (Ty.cells_ids τ _) _
 |recs e n f=>simp[Con.free]at h
 |cells l=>
  simp only[Con.free,List.isEmpty_iff]at h
  exact oW h q
theorem EF {w0 w:World} {M:Nat→Prop} {h:List aV} {ρ:Rho} (m:Mem X w0 M h ρ w) {get:Get}
  {x y:aI} {v:Value} {sets:List (Nat×aV)} {o:List Bool} (hg: ∀id s,(id,s)∈sets→ ∀c,get id=.live c→Heap.get h id=.live c) (hf:froz get x=some (y,sets,o)) (ho: ∀b∈o,b=true) (hx:CR X w ρ x v):
  ∃ρ',d7 X w0 M h ρ w sets ρ'∧CR X w ρ' y v:=by
 have triv: ∀y,some (x,([]:List (Nat×aV)),([]:List Bool))=some (y,sets,o)→ ∃ρ',d7 X w0 M h ρ w sets ρ'∧CR X w ρ' y v:=by
  intro y e
  injection e with e;injection e with e1 e2;injection e2 with e2 e3
  subst e1 e2 e3
  exact⟨ρ,d7.nil m,hx⟩
 unfold froz at hf
 split at hf
 ·rename_i id len es cap
  split at hf
  ·rename_i c hs
   cases hfr:c.free with
   |false=>rw[hfr]at hf;cases hf
   |true=>
   rw[hfr]at hf
   injection hf with hf;injection hf with e1 e2;injection e2 with e2 e3
   subst e1 e2 e3
   have hs':=hg _ _ (List.mem_singleton.2 rfl) _ hs
   have hz:len*es=c.size:=by simpa [dI]using ho _ (List.mem_singleton.2 rfl)
   obtain⟨mk,mm⟩:=m.kill (id:=id) (by rw[hs'];simp)
   refine⟨upd ρ id .dead,⟨mk,by simpa [cZ]using mm,fun j hj=>bK _ _ (fun e=>hj _ (by subst e;exact List.mem_singleton.2 rfl))⟩, ?_⟩
   rcases dQ m hs' hx with⟨b,k,ty,n,hb,rfl,⟨cs,ty',hrow,hsz,hcs⟩,hsh,hn,hl,hcap⟩|⟨a,rfl,rfl,hcap⟩
   ·rw[Nat.zero_mul]
    refine .view none c len es cap b 0 k (fun q=>cs.getD q undef) (fun _=> ?_) (fun q hq=> ?_) (fun q hq=>(((hcs q hq).mono mk).free (eM hfr q))) hz hl hcap (fun _ h=>by cases h)
    ·rintro(⟨j,hj⟩|hx')
     rotate_left
     ·exact m.notX hb hx'
     by_cases e:j=id
     ·subst e;rw[aW]at hj;cases hj
     ·rw[bK _ _ e]at hj;exact e (m.inj j id b hj hb)
    ·have hq':q<cs.size:=by omega
     simp[World.cell?,hrow,Array.getD,hq']
   ·exact .viewNone none c es cap a 0 (by omega) hcap (fun _ h=>by cases h) (fun _=>rfl)
  ·cases hf
 ·cases hf
 ·cases hf
 ·cases hf
 ·exact triv _ hf
theorem fV {w0 w:World} {M:Nat→Prop} {get:Get}:
  ∀ {l l':List aI} {vs:List Value} {sets:List (Nat×aV)} {o:List Bool} {h:List aV} {ρ:Rho},Mem X w0 M h ρ w→
  (∀id s,(id,s)∈sets→ ∀c,get id=.live c→Heap.get h id=.live c)→
  eN get l=some (l',sets,o)→cS (sets.map (·.1))=true→(∀b∈o,b=true)→vs.length=l.length→(∀q,q<l.length→CR X w ρ (l.getD q .any) (vs.getD q undef))→
  ∃ρ',d7 X w0 M h ρ w sets ρ'∧l'.length=l.length∧(∀q,q<l'.length→CR X w ρ' (l'.getD q .any) (vs.getD q undef))
 |[],l',vs,sets,o,h,ρ,m,hh,hf,hd,ho,hv,hx=>by
  simp[eN]at hf
  obtain⟨rfl,rfl,rfl⟩:=hf
  exact⟨ρ,d7.nil m,rfl,fun q hq=>by simp at hq⟩
 |x::l,l',vs,sets,o,h,ρ,m,hh,hf,hd,ho,hv,hx=>by
  cases vs with
  |nil=>simp at hv
  |cons v vs=>
   simp only[eN]at hf
   split at hf
   ·rename_i y s o1 ys s' o2 e1 e2
    injection hf with hf;injection hf with f1 f2;injection f2 with f2 f3
    subst f1 f2 f3
    obtain⟨ρ1,k1,hy⟩:=EF m (fun id s hi=>hh id s (List.mem_append_left _ hi)) e1 (fun b hb=>ho b (List.mem_append_left _ hb)) (by simpa using hx 0 (by simp))
    rw[List.map_append]at hd
    obtain⟨hd1,hd2⟩:=nN hd
    obtain⟨ρ2,k2,hl,hys⟩:=fV (vs:=vs) k1.mem (fun id t hi c hc=>by
      rw[dN _ _ _ (fun t' ht'=>hd2 id (List.mem_map.2 ⟨(id,t'),ht',rfl⟩) (List.mem_map.2 ⟨(id,t),hi,rfl⟩))]
      exact hh id t (List.mem_append_right _ hi) c hc) e2 hd1 (fun b hb=>ho b (List.mem_append_right _ hb)) (by simpa using hv)
     (fun q hq=>by have:=(hx (q+1) (by simpa using hq)).mono k1.mono;simpa using this)
    refine⟨ρ2,⟨k1.mono.trans k2.mono,by rw[hX];exact k2.mem,fun id hid=> ?_⟩,by simp[hl],fun q hq=> ?_⟩
    ·rw[k2.other id (fun t ht=>hid t (List.mem_append_right _ ht)),k1.other id (fun t ht=>hid t (List.mem_append_left _ ht))]
    ·cases q with
     |zero=>simpa using hy.mono k2.mono
     |succ q=>simpa using hys q (by simpa using hq)
   ·cases hf
end
section
variable {X : Nat → Prop}
def ZM (X:Nat→Prop) (P:Program) (w0:World) (M:Nat→Prop) (h:List aV) (ρ:Rho) (w:World) (eff:Eff) (s:Sem Unit):Prop:=
 ∃w' ρ',s.run P w=.ok () w'∧bN w ρ w' ρ'∧Mem X w0 M (cZ h eff.sets) ρ' w'∧eff.val=.tup []
theorem UB {c:Con} {i es j m:Nat} (h:c.has i es j m=true):i*es+j+m≤c.size:=by
 have gen: ∀n,inB i es j m n=true→i*es+j+m≤n:=by
  intro n h
  unfold inB at h
  split at h
  ·simp[dI]at h;omega
  ·simp[dI]at h;omega
 cases c with
 |recs e n f=>
  simp only[Con.has,Bool.and_eq_true,rpS,decide_eq_true_eq,beq_iff_eq]at h
  obtain⟨⟨he,hi⟩,hj⟩:=h
  subst he
  simp only[Con.size]
  have h2:(i+1)*e≤n*e:=Nat.mul_le_mul_right _ hi
  rw[Nat.add_mul,Nat.one_mul]at h2;omega
 |typ τ xs=>
  simp only[Con.has,Bool.and_eq_true,rpS,decide_eq_true_eq,beq_iff_eq]at h
  obtain⟨⟨he,hi⟩,hj⟩:=h
  subst he
  simp only[Con.size]
  have h2:(i+1)*τ.es≤xs.length*τ.es:=Nat.mul_le_mul_right _ hi
  rw[Nat.add_mul,Nat.one_mul]at h2;omega
 |ints k xs=>exact gen _ h
 |bools bs=>exact gen _ h
 |ivs k xss=>exact gen _ h
 |cells cs=>exact gen _ h
section
variable {P : Program} {tt : Tab} (hT : iK P tt) {w0 w : World} {M : Nat → Prop} {h : List aV} {ρ : Rho} (m : Mem X w0 M h ρ w)
include m
theorem lT {t id i es j b:Nat} {ti:TI} {inf:TypeInfo} {z:Value} {d:TypeDesc} (k:iJ P t ti inf z d) {c c':Con} {l:List aI} {v:Value}
  (hb:ρ id=.row b) (hrow:H0 X w ρ c b) (hp:c.puts i es j l=some c') (hvs:v.cells.size=l.length) (hx: ∀q,q<l.length→CR X w ρ (l.getD q .any) (v.cells.getD q undef))
  (h1: ∀u∈v.cells.toList,u.oneCell'=true) (hl:l.length=ti.size) (hh:c.has i es j ti.size=true):
  ∃w',(Instr.storeAt t (.pointer (some ⟨b,i*es+j,none⟩)) v).run P w=.ok () w'∧bN w ρ w' ρ∧Mem X w0 M (h.set id (.live c')) ρ w':=by
 obtain⟨cs,ty,hrw,hsz,hcs⟩:=hrow
 have hle:=UB hh
 have hst:=run_storeCells_at P b (i*es+j) ty v.cells.toList 0 cs w hrw (by simp;omega) h1
 obtain⟨p1,p2⟩:=ER (w:=w) (ρ:=ρ) (cs:=cs) (vs:=v.cells.toList) hp (by simpa using hvs) (fun q hq=>by
  have:=hx q hq;simpa [Array.getD_eq_getD_getElem?,List.getD_eq_getElem?_getD]using this) (by omega) hsz hcs
 obtain⟨g1,g2⟩:=m.write hb c' cs (cs.toList.take (i*es+j)++v.cells.toList++cs.toList.drop (i*es+j+v.cells.toList.length)).toArray ty hrw
  (by simp;omega) (by rw[p1];simp;omega) (fun q hq=>p2 q (by rw[←p1];exact hq))
 refine⟨_, ?_,g1,g2⟩
 simp only[Nat.add_zero]at hst
 simp[Instr.storeAt,Instr.sureAddr,storeVar,bZ k,hvs,hl,hst]
include hT in
theorem J8 {get:Get} (hg: ∀id c,get id=.live c→Heap.get h id=.live c) {t:Nat} {x y:AV} {v u:Value} (hx:AVR X w ρ x v) (hy:AVR X w ρ y u) {e:Eff}
  (he:E4 tt get t x y=some e) (ho: ∀b∈e.obl,b=true):ZM X P w0 M h ρ w e (Instr.storeAt t v u):=by
 unfold E4 at he
 replace he:=Option.bind_eq_some_iff.1 he
 obtain⟨ti,hti,he⟩:=he
 obtain⟨inf,z,d,k⟩:=bR hT hti
 split at he
 ·rename_i id i es j l hl
  obtain⟨c1,c2,c3⟩:=hy.cells hl
  cases hx with
  |c _ _ hx=>
  split at he
  ·rename_i c hs
   have hs':=hg _ _ hs
   obtain⟨b,hb,rfl,hrow⟩:=gO m hs' hx
   split at he
   ·rename_i hlen
    split at he
    ·rename_i hbx
     split at he
     ·rename_i l' s o hf
      split at he
      ·rename_i c' hp
       injection he with he;subst he
       have hnd:cS (id::s.map (·.1))=true:=ho _ (by simp)
       simp only[cS,Bool.and_eq_true,rpS,Bool.not_eq_true']at hnd
       have hidn: ∀t',(id,t')∉s:=fun t' ht'=>by
        have:(s.map (·.1)).elem id=true:=List.elem_eq_true_of_mem (List.mem_map.2 ⟨(id,t'),ht',rfl⟩)
        rw[hnd.1]at this;cases this
       obtain⟨ρ1,k1,hl',hys⟩:=fV m (fun id _ _ c hc=>hg id c hc) hf hnd.2 (fun b hb=>ho b (by simp[hb])) (vs:=u.cells.toList) (by simpa using c1)
        (fun q hq=>by have:=c2 q hq;simpa [Array.getD_eq_getD_getElem?,List.getD_eq_getElem?_getD]using this)
       obtain⟨w',hrun,g1,g2⟩:=lT k1.mem k (by rw[k1.other id hidn];exact hb) (c:=c) (by
         obtain⟨cs,ty,r1,r2,r3⟩:=hrow
         exact⟨cs,ty,r1,r2,fun q hq=>(r3 q hq).mono k1.mono⟩) hp (by rw[hl'];exact c1) (fun q hq=>by
         have:=hys q hq;simpa [Array.getD_eq_getD_getElem?,List.getD_eq_getElem?_getD]using this) c3 (by rw[hl'];exact hlen) (ho _ (by simp))
       exact⟨w',ρ1,hrun,k1.mono.trans g1,by rw[hX];simpa [cZ]using g2,rfl⟩
      ·cases he
     ·cases he
    ·split at he
     ·rename_i c' hp
      injection he with he;subst he
      obtain⟨w',hrun,g1,g2⟩:=lT m k hb hrow hp c1 c2 c3 hlen (ho _ (by simp))
      exact⟨w',ρ,hrun,g1,by simpa [cZ]using g2,rfl⟩
     ·cases he
   ·cases he
  ·cases he
 ·cases he
omit m in
theorem gE {w:World} {ρ:Rho} {α:Type} (f:aI→Option α) (g:α→aI) (d:α) (hf: ∀x a v,f x=some a→CR X w ρ x v→CR X w ρ (g a) v):
  ∀ {l:List aI} {as:List α} {vs:List Value},mL f l=some as→vs.length=l.length→(∀q,q<l.length→CR X w ρ (l.getD q .any) (vs.getD q undef))→
  as.length=l.length∧ ∀q,q<as.length→CR X w ρ (g (as.getD q d)) (vs.getD q undef)
 |[],as,vs,h,hv,hx=>by
  simp[mL]at h;subst h;exact⟨rfl,fun q hq=>by simp at hq⟩
 |x::r,as,vs,h,hv,hx=>by
  cases vs with
  |nil=>simp at hv
  |cons v vs=>
   simp only[mL]at h
   split at h
   ·rename_i a l h1 h2
    injection h with h;subst h
    obtain⟨e1,e2⟩:=gE f g d hf h2 (vs:=vs) (by simpa using hv) (fun q hq=>by have:=hx (q+1) (by simpa using hq);simpa using this)
    refine⟨by simp[e1],fun q hq=> ?_⟩
    cases q with
    |zero=>have:=hx 0 (by simp);simpa using hf x a v h1 (by simpa using this)
    |succ q=>simpa using e2 q (by simpa using hq)
   ·cases h
omit m in
theorem jX {w:World} {ρ:Rho} {ck:CK} {l:List aI} {c:Con} {vs:List Value} (h:sU ck l=some c) (hv:vs.length=l.length)
  (hx: ∀q,q<l.length→CR X w ρ (l.getD q .any) (vs.getD q undef)):c.size=l.length∧ ∀q,q<c.size→CR X w ρ (c.cell q) (vs.getD q undef):=by
 cases ck with
 |cells=>simp[sU]at h;subst h;exact⟨rfl,hx⟩
 |ints k=>
  obtain⟨as,h1,h2⟩:=Option.map_eq_some_iff.1 h;subst h2
  exact gE (UE k) (.int k) 0 (fun x a v hx hv=>by
   unfold UE at hx;split at hx
   ·split at hx
    ·rename_i hk;subst hk;injection hx with hx;subst hx;exact hv
    ·cases hx
   ·cases hx) h1 hv hx
 |bools=>
  obtain⟨as,h1,h2⟩:=Option.map_eq_some_iff.1 h;subst h2
  exact gE LI .bool false (fun x a v hx hv=>by
   unfold LI at hx;split at hx
   ·injection hx with hx;subst hx;exact hv
   ·cases hx) h1 hv hx
 |typ τ=>
  obtain⟨as,h1,h2⟩:=Option.map_eq_some_iff.1 h;subst h2
  obtain⟨e1,e2⟩:=Ty.ofAll_sound h1 hx
  exact⟨e1.symm,e2⟩
 |ivs k=>
  obtain⟨as,h1,h2⟩:=Option.map_eq_some_iff.1 h;subst h2
  exact gE (ivC k) (fun xs=> .view none (.ints k xs) xs.length 1 none) [] (fun x a v hx hv=>by
   unfold ivC at hx;split at hx
   ·split at hx
    ·rename_i hk;subst hk;injection hx with hx;subst hx;exact vC hv
    ·cases hx
   ·cases hx) h1 hv hx
omit m in
theorem vN {get:Get} (hg: ∀id c,get id=.live c→Heap.get h id=.live c) (m:Mem X w0 M h ρ w) {ck:CK} {l:List aI} {c:Con} {sets:List (Nat×aV)} {o:List Bool} {vs:List Value}
  (hc:dY get ck l=some (c,sets,o)) (ho: ∀b∈o,b=true) (hv:vs.length=l.length) (hx: ∀q,q<l.length→CR X w ρ (l.getD q .any) (vs.getD q undef)):
  ∃ρ',d7 X w0 M h ρ w sets ρ'∧c.size=l.length∧ ∀q,q<c.size→CR X w ρ' (c.cell q) (vs.getD q undef):=by
 have plain: ∀ck,(sU ck l).map (fun c=>(c,([]:List (Nat×aV)),([]:List Bool)))=some (c,sets,o)→
   ∃ρ',d7 X w0 M h ρ w sets ρ'∧c.size=l.length∧ ∀q,q<c.size→CR X w ρ' (c.cell q) (vs.getD q undef):=by
  intro ck hc
  obtain⟨c1,h1,h2⟩:=Option.map_eq_some_iff.1 hc
  injection h2 with e1 e2;injection e2 with e2 e3
  subst e1 e2 e3
  exact⟨ρ,d7.nil m,jX h1 hv hx⟩
 cases ck with
 |cells=>
  simp only[dY,Option.some.injEq,Prod.mk.injEq]at hc
  obtain⟨rfl,rfl,rfl⟩:=hc
  exact⟨ρ,d7.nil m,rfl,hx⟩
 |ints k=>exact plain _ hc
 |bools=>exact plain _ hc
 |typ τ=>
  simp only[dY]at hc
  split at hc
  ·rename_i l' s o' hf
   obtain⟨c1,h1,h2⟩:=Option.map_eq_some_iff.1 hc
   injection h2 with e1 e2;injection e2 with e2 e3
   subst e1 e2 e3
   obtain⟨ρ1,k1,hl',hys⟩:=fV m (fun id _ _ c hc=>hg id c hc) hf (ho _ (by simp)) (fun b hb=>ho b (by simp[hb])) hv hx
   obtain⟨e1,e2⟩:=jX h1 (by rw[hl'];exact hv) hys
   exact⟨ρ1,k1,by rw[e1,hl'],e2⟩
  ·cases hc
 |ivs k=>
  simp only[dY]at hc
  split at hc
  ·rename_i l' s o' hf
   obtain⟨c1,h1,h2⟩:=Option.map_eq_some_iff.1 hc
   injection h2 with e1 e2;injection e2 with e2 e3
   subst e1 e2 e3
   obtain⟨ρ1,k1,hl',hys⟩:=fV m (fun id _ _ c hc=>hg id c hc) hf (ho _ (by simp)) (fun b hb=>ho b (by simp[hb])) hv hx
   obtain⟨e1,e2⟩:=jX h1 (by rw[hl'];exact hv) hys
   exact⟨ρ1,k1,by rw[e1,hl'],e2⟩
  ·cases hc
theorem nM {base:Nat} (hb:Heap.get h base=.unborn) (hbl:base<h.length) {sets:List (Nat×aV)} {ρ1:Rho} (k:d7 X w0 M h ρ w sets ρ1)
  {c:Con} {cs:Array Value} (ty:TypeId) (hsz:c.size≤cs.size) (hc: ∀q,q<c.size→CR X w ρ1 (c.cell q) (cs.getD q undef)) (hn: ∀s,(base,s)∉sets):
  bN w ρ {w with heap:=w.heap.push (.cells cs ty (0,0))} (upd ρ1 base (.row w.heap.size))∧
  Mem X w0 M (cZ h (sets++[(base,.live c)])) (upd ρ1 base (.row w.heap.size)) {w with heap:=w.heap.push (.cells cs ty (0,0))}:=by
 obtain⟨a,b⟩:=k.mem.alloc (id:=base) (by rw[dN _ _ _ hn];exact hb) (by rw[eJ];exact hbl) c cs ty hsz hc
 exact⟨k.mono.trans a,by rw[hX];simpa [cZ]using b⟩
end
theorem HK {get:Get} {x y:aI} {s:List (Nat×aV)} {o:List Bool} (hf:froz get x=some (y,s,o)): ∀id t,(id,t)∈s→ ∃c,get id=.live c:=by
 have triv:some (x,([]:List (Nat×aV)),([]:List Bool))=some (y,s,o)→ ∀id t,(id,t)∈s→ ∃c,get id=.live c:=by
  intro e;injection e with e;injection e with e1 e2;injection e2 with e2 e3;subst e2;intro _ _ h;cases h
 unfold froz at hf
 split at hf
 ·split at hf
  ·rename_i c hs
   cases hfr:c.free with
   |false=>rw[hfr]at hf;cases hf
   |true=>
   rw[hfr]at hf
   injection hf with hf;injection hf with e1 e2;injection e2 with e2 e3;subst e2
   intro i t hi;simp at hi;obtain⟨rfl,rfl⟩:=hi;exact⟨c,hs⟩
  ·cases hf
 ·cases hf
 ·cases hf
 ·cases hf
 ·exact triv hf
theorem j5 {get:Get}: ∀ {l l':List aI} {s:List (Nat×aV)} {o:List Bool},eN get l=some (l',s,o)→ ∀id t,(id,t)∈s→ ∃c,get id=.live c
 |[],l',s,o,h=>by simp[eN]at h;obtain⟨rfl,rfl,rfl⟩:=h;intro _ _ h;cases h
 |x::l,l',s,o,h=>by
  simp only[eN]at h
  split at h
  ·rename_i y s1 o1 ys s2 o2 e1 e2
   injection h with h;injection h with f1 f2;injection f2 with f2 f3;subst f2
   intro id t hi
   rcases List.mem_append.1 hi with hi|hi
   ·exact HK e1 id t hi
   ·exact j5 e2 id t hi
  ·cases h
theorem yL {get:Get} {ck:CK} {l:List aI} {c:Con} {s:List (Nat×aV)} {o:List Bool} (hc:dY get ck l=some (c,s,o)): ∀id t,(id,t)∈s→ ∃c,get id=.live c:=by
 have plain: ∀ck,(sU ck l).map (fun c=>(c,([]:List (Nat×aV)),([]:List Bool)))=some (c,s,o)→ ∀id t,(id,t)∈s→ ∃c,get id=.live c:=by
  intro ck hc
  obtain⟨c1,h1,h2⟩:=Option.map_eq_some_iff.1 hc
  injection h2 with e1 e2;injection e2 with e2 e3;subst e2;intro _ _ h;cases h
 cases ck with
 |cells=>simp only[dY,Option.some.injEq,Prod.mk.injEq]at hc;obtain⟨rfl,rfl,rfl⟩:=hc;intro _ _ h;cases h
 |ints k=>exact plain _ hc
 |bools=>exact plain _ hc
 |typ τ=>
  simp only[dY]at hc
  split at hc
  ·rename_i l' s' o' hf
   obtain⟨c1,h1,h2⟩:=Option.map_eq_some_iff.1 hc
   injection h2 with e1 e2;injection e2 with e2 e3;subst e2
   exact j5 hf
  ·cases hc
 |ivs k=>
  simp only[dY]at hc
  split at hc
  ·rename_i l' s' o' hf
   obtain⟨c1,h1,h2⟩:=Option.map_eq_some_iff.1 hc
   injection h2 with e1 e2;injection e2 with e2 e3;subst e2
   exact j5 hf
  ·cases hc
end
section
variable {X : Nat → Prop}
def LR (X:Nat→Prop) (w:World) (ρ:Rho) (l:List aI) (vs:List Value):Prop:=vs.length=l.length∧ ∀i,i<l.length→CR X w ρ (l.getD i .any) (vs.getD i undef)
theorem LR.nil (w:World) (ρ:Rho):LR X w ρ [] []:=⟨rfl,fun i hi=>by simp at hi⟩
theorem LR.cons {w:World} {ρ:Rho} {x:aI} {v:Value} {l:List aI} {vs:List Value} (h:CR X w ρ x v) (hl:LR X w ρ l vs):LR X w ρ (x::l) (v::vs):=by
 refine⟨by simp[hl.1],fun i hi=> ?_⟩
 cases i with
 |zero=>simpa using h
 |succ i=>simpa using hl.2 i (by simpa using hi)
theorem LR.append {w:World} {ρ:Rho}: ∀ {a b:List aI} {u v:List Value},LR X w ρ a u→LR X w ρ b v→LR X w ρ (a++b) (u++v)
 |[],b,u,v,ha,hb=>by
  have:u=[]:=by simpa using ha.1
  subst this;simpa using hb
 |x::a,b,u,v,ha,hb=>by
  cases u with
  |nil=>have:=ha.1;simp at this
  |cons y u=>
   have h0:=ha.2 0 (by simp)
   exact LR.cons (by simpa using h0) (LR.append ⟨by simpa using ha.1,fun i hi=>by simpa using ha.2 (i+1) (by simpa using hi)⟩ hb)
theorem LR.take {w:World} {ρ:Rho} {l:List aI} {vs:List Value} (h:LR X w ρ l vs) (n:Nat):LR X w ρ (l.take n) (vs.take n):=by
 refine⟨by simp[h.1],fun i hi=> ?_⟩
 rw[List.length_take]at hi
 have h1:i<n:=by omega
 have:=h.2 i (by omega)
 simpa [List.getD_eq_getElem?_getD,List.getElem?_take,h1]using this
theorem LR.drop {w:World} {ρ:Rho} {l:List aI} {vs:List Value} (h:LR X w ρ l vs) (n:Nat):LR X w ρ (l.drop n) (vs.drop n):=by
 refine⟨by simp[h.1],fun i hi=> ?_⟩
 simp at hi
 have:=h.2 (n+i) (by omega)
 simpa [List.getD_eq_getElem?_getD,List.getElem?_drop]using this
theorem LR.mono {w w':World} {ρ ρ':Rho} (m:bN w ρ w' ρ') {l:List aI} {vs:List Value} (h:LR X w ρ l vs):LR X w' ρ' l vs:=⟨h.1,fun i hi=>(h.2 i hi).mono m⟩
theorem AVR.lr {w:World} {ρ:Rho} {x:AV} {v:Value} {l:List aI} (h:AVR X w ρ x v) (hx:cellsOf x=some l):LR X w ρ l v.cells.toList:=by
 obtain⟨a,b,c⟩:=h.cells hx
 exact⟨by simpa using a,fun i hi=>by have:=b i hi;simpa [Array.getD_eq_getD_getElem?,List.getD_eq_getElem?_getD]using this⟩
theorem AVR.of_lr {w:World} {ρ:Rho} {l:List aI} {vs:Array Value} (h:LR X w ρ l vs.toList):AVR X w ρ (.agg l) (.agg vs):=
 .agg _ _ (by simpa using h.1) fun i hi=>by have:=h.2 i hi;simpa [Array.getD_eq_getD_getElem?,List.getD_eq_getElem?_getD]using this
theorem LR.one {w:World} {ρ:Rho} {l:List aI} {vs:List Value} (h:LR X w ρ l vs): ∀u∈vs,u.oneCell'=true:=by
 intro u hu
 obtain⟨i,hi,rfl⟩:=List.getElem_of_mem hu
 have:=(h.2 i (by rw[←h.1];exact hi)).one
 simpa [List.getD_eq_getElem?_getD,hi]using this
theorem B3 (off:Nat): ∀(l:List Value) (k:Nat) (cells:Array Value),off+k+l.length≤cells.size→
  ((l.zipIdx k).foldl (fun(cs:Array Value) (x:Value×Nat)=>cs.setIfInBounds (off+x.2) x.1) cells).toList=cells.toList.take (off+k)++l++cells.toList.drop (off+k+l.length)
 |[],k,cells,h=>by simp
 |v::l,k,cells,h=>by
  simp only[List.zipIdx_cons,List.foldl_cons]
  simp only[List.length_cons]at h
  rw[B3 off l (k+1) (cells.setIfInBounds (off+k) v) (by simp;omega)]
  have e:=list_seg_step cells.toList (off+k) v l (by simp;omega)
  rw[show off+(k+1)=off+k+1 from by omega]
  simpa [Array.toList_setIfInBounds]using e
theorem j4 {w:World} {ρ:Rho} {pa p:Nat→Option (Nat×Nat)} (hp: ∀i x,pa i=some x→p i=some x):
  ∀ {parts:List (Nat×Value)} {as:List (Nat×AV)} {l out:List aI} {cells:Array Value},parts.map (·.1)=as.map (·.1)→(∀q,q<as.length→AVR X w ρ (as.getD q (0,.any)).2 (parts.getD q (0,undef)).2)→
  LR X w ρ l cells.toList→tG pa l as=some out→ ∃arr,Instr.fill p cells parts=some arr∧LR X w ρ out arr.toList∧out.length=l.length
 |[],as,l,out,cells,hi,hx,hl,hf=>by
  have:as=[]:=by cases as<;>simp at hi⊢
  subst this
  simp[tG]at hf;subst hf
  exact⟨cells,rfl,hl,rfl⟩
 |(i,v)::parts,as,l,out,cells,hi,hx,hl,hf=>by
  cases as with
  |nil=>simp at hi
  |cons a as=>
   obtain⟨j,x⟩:=a
   simp at hi
   obtain⟨rfl,hi⟩:=hi
   simp only[tG]at hf
   split at hf
   ·rename_i off size ls h1 h2
    split at hf
    ·rename_i hc
     have hv:=(hx 0 (by simp)).lr (by simpa using h2)
     simp at hv
     have hvs:v.cells.size=size:=by have:=hv.1;simp at this;omega
     have hsz:off+size≤cells.size:=by have:=hl.1;simp at this;omega
     have hz:(v.cells.zipIdx.foldl (fun(cs:Array Value) (x:Value×Nat)=>cs.setIfInBounds (off+x.2) x.1) cells).toList=cells.toList.take off++v.cells.toList++cells.toList.drop (off+size):=by
      rw[←Array.foldl_toList,Array.toList_zipIdx]
      have:=B3 off v.cells.toList 0 cells (by simp;omega)
      simpa [hvs]using this
     obtain⟨arr,e1,e2,e3⟩:=j4 hp (parts:=parts) (as:=as) (cells:=v.cells.zipIdx.foldl (fun(cs:Array Value) (x:Value×Nat)=>cs.setIfInBounds (off+x.2) x.1) cells) hi
      (fun q hq=>by have:=hx (q+1) (by simpa using hq);simpa using this)
      (by rw[hz];exact((hl.take off).append hv).append (hl.drop (off+size))) hf
     refine⟨arr, ?_,e2,by rw[e3];simp;omega⟩
     simp only[Instr.fill,hp _ _ h1,hvs]
     rw[if_neg (by simp;omega)]
     exact e1
    ·cases hf
   ·cases hf
theorem f8 (l:List aI): ∀n,(lH l n).length=n*l.length
 |0=>by simp[lH]
 |n+1=>by simp[lH,f8 l n,Nat.add_mul,Nat.add_comm]
theorem kO {w:World} {ρ:Rho} {l:List aI} {z:Array Value} (h:LR X w ρ l z.toList) (hl:0<l.length): ∀n,LR X w ρ (lH l n) (((Array.range (n*l.length)).map (z[· %z.size]!)).toList)
 |0=>by simp[lH];exact LR.nil w ρ
 |n+1=>by
  have hz:z.size=l.length:=by simpa using h.1
  have e:((Array.range ((n+1)*l.length)).map (z[· %z.size]!)).toList=z.toList++((Array.range (n*l.length)).map (z[· %z.size]!)).toList:=by
   apply List.ext_getElem?
   intro i
   rw[List.getElem?_append]
   simp only[Array.toList_map,Array.toList_range,List.getElem?_map,List.getElem?_range,Array.length_toList,hz]
   by_cases h1:i<l.length
   ·have h2:i<(n+1)*l.length:=by rw[Nat.add_mul];omega
    simp[h1,h2,Nat.mod_eq_of_lt h1,hz]
   ·by_cases h2:i<(n+1)*l.length
    ·have h3:i-l.length<n*l.length:=by rw[Nat.add_mul,Nat.one_mul]at h2;omega
     have h4:(i-l.length)%l.length=i%l.length:=by
      conv=>rhs;rw[show i=(i-l.length)+l.length from by omega]
      rw[Nat.add_mod_right]
     simp[h1,h2,h3,h4]
    ·have h3: ¬i-l.length<n*l.length:=by rw[Nat.add_mul,Nat.one_mul]at h2;omega
     simp[h1,h2,h3]
  rw[e]
  exact h.append (kO h hl n)
theorem i7 {P:Program} {t:Nat} {ti:TI} {i:TypeInfo} {z:Value} {d:TypeDesc} (k:iJ P t ti i z d) (w:World) (ρ:Rho):LR X w ρ ti.zero z.cells.toList:=by
 obtain⟨a,b⟩:=pW (w:=w) (ρ:=ρ) k.zs
 exact⟨a,b⟩
theorem tU {k:IntKind} {c:aI} (h:isZ k c=true):c=.int k 0:=by
 unfold isZ at h
 split at h
 ·simp at h;obtain⟨rfl,rfl⟩:=h;rfl
 ·cases h
theorem eD {α:Type} (n q:Nat) (x d:α) (h:q<n):(List.replicate n x).getD q d=x:=by
 simp[List.getD_eq_getElem?_getD,h]
theorem J0 (l:List aI) (x:aI) (hx: ∀c∈l,c=x): ∀n q,q<n*l.length→(lH l n).getD q .any=x:=by
 intro n
 induction n with
 |zero=>intro q h;simp at h
 |succ n ih=>
  intro q h
  rw[Nat.add_mul,Nat.one_mul]at h
  simp only[lH,List.getD_eq_getElem?_getD,List.getElem?_append]
  split
  ·rename_i h1
   simp[List.getElem?_eq_getElem h1,hx _ (List.getElem_mem h1)]
  ·rename_i h1
   have:=ih (q-l.length) (by omega)
   simpa [List.getD_eq_getElem?_getD]using this
theorem MP (l:List aI): ∀n q,q<n*l.length→(lH l n).getD q .any=l.getD (q%l.length) .any:=by
 intro n
 induction n with
 |zero=>intro q h;simp at h
 |succ n ih=>
  intro q h
  rw[Nat.add_mul,Nat.one_mul]at h
  simp only[lH]
  by_cases h1:q<l.length
  ·rw[List.getD_eq_getElem?_getD,List.getElem?_append_left h1,Nat.mod_eq_of_lt h1,←List.getD_eq_getElem?_getD]
  ·rw[List.getD_eq_getElem?_getD,List.getElem?_append_right (by omega),←List.getD_eq_getElem?_getD,ih (q-l.length) (by omega)]
   congr 1
   rw[Nat.mod_eq_sub_mod (a:=q) (by omega)]
theorem lY {ck:CK} {z:List aI} {n:Nat} {c:Con} (h:s5 ck z n=some c):c.size=n*z.length∧
  ∀ {w:World} {ρ:Rho} {vs:List Value},LR X w ρ (lH z n) vs→ ∀q,q<c.size→CR X w ρ (c.cell q) (vs.getD q undef):=by
 have mk: ∀(x:aI),c.size=n*z.length→(∀y∈z,y=x)→(∀q,q<c.size→ ∀(w:World) (ρ:Rho) v,CR X w ρ x v→CR X w ρ (c.cell q) v)→
   c.size=n*z.length∧ ∀ {w:World} {ρ:Rho} {vs:List Value},LR X w ρ (lH z n) vs→ ∀q,q<c.size→CR X w ρ (c.cell q) (vs.getD q undef):=by
  intro x hs hx hq
  refine⟨hs,fun {w ρ vs} hl q hlt=> ?_⟩
  have h1:=hl.2 q (by rw[f8];omega)
  rw[J0 z x hx n q (by omega)]at h1
  exact hq q hlt w ρ _ h1
 unfold s5 at h
 split at h
 ·rename_i k y
  cases hz:isZ k y with
  |false=>rw[hz]at h;cases h
  |true=>
   rw[hz]at h;injection h with h;subst h
   have e:=tU hz
   subst e
   refine mk (.int k 0) (by simp[Con.size]) (fun y hy=>by simpa using hy) (fun q hq w ρ v hv=> ?_)
   simp only[Con.cell];rw[eD _ _ _ _ (by simpa [Con.size]using hq)];exact hv
 ·rename_i k _
  cases hz:z.all (isZ k)with
  |false=>rw[hz]at h;cases h
  |true=>
   rw[hz]at h;injection h with h;subst h
   refine mk (.int k 0) (by simp[Con.size]) (fun y hy=>tU (List.all_eq_true.1 hz y hy)) (fun q hq w ρ v hv=> ?_)
   simp only[Con.cell];rw[eD _ _ _ _ (by simpa [Con.size]using hq)];exact hv
 ·injection h with h;subst h
  refine mk (.bool false) (by simp[Con.size]) (fun y hy=>by simpa using hy) (fun q hq w ρ v hv=> ?_)
  simp only[Con.cell];rw[eD _ _ _ _ (by simpa [Con.size]using hq)];exact hv
 ·injection h with h;subst h
  refine mk .nils (by simp[Con.size]) (fun y hy=>by simpa using hy) (fun q hq w ρ v hv=> ?_)
  simp only[Con.cell];rw[eD _ _ _ _ (by simpa [Con.size]using hq)]
  cases hv;exact .viewNone none _ 1 none none 0 rfl (fun _ h=>by cases h) (fun _ h=>by cases h) (fun _=>rfl)
 ·rename_i τ
  obtain⟨y,hy,h⟩:=Option.map_eq_some_iff.1 h
  subst h
  have hp:=τ.es_pos
  have hz:=Ty.of_len hy
  refine⟨by simp only[Con.size,List.length_replicate,hz],fun {w ρ vs} hl q hq=> ?_⟩
  simp only[Con.size,List.length_replicate]at hq
  have hqi:q/τ.es<n:=Nat.div_lt_of_lt_mul (by rw[Nat.mul_comm];exact hq)
  have hqm:=Nat.mod_lt q hp
  have hqe:q=q/τ.es*τ.es+q%τ.es:=by rw[Nat.mul_comm];exact(Nat.div_add_mod q τ.es).symm
  simp only[Con.cell]
  rw[eD _ _ _ _ hqi]
  have ev: ∀r,r<τ.es→((List.range τ.es).map fun r=>vs.getD (q/τ.es*τ.es+r) undef).getD r undef=vs.getD (q/τ.es*τ.es+r) undef:=fun r hr=>by
   rw[List.getD_eq_getElem?_getD,List.getElem?_map,List.getElem?_range hr];rfl
  have:=(Ty.of_sound (X:=X) (w:=w) (ρ:=ρ) (vs:=(List.range τ.es).map fun r=>vs.getD (q/τ.es*τ.es+r) undef) hy (fun r hr=>by
   rw[hz]at hr
   have h2:(q/τ.es+1)*τ.es≤n*τ.es:=Nat.mul_le_mul_right _ hqi
   rw[Nat.add_mul,Nat.one_mul]at h2
   have:=hl.2 (q/τ.es*τ.es+r) (by rw[f8,hz];omega)
   rw[ev r hr]
   rwa[MP z n _ (by rw[hz];omega),hz,show(q/τ.es*τ.es+r)%τ.es=r from by rw[Nat.add_comm,Nat.add_mul_mod_self_right,Nat.mod_eq_of_lt hr]]at this)).2 (q%τ.es) hqm
  rw[ev _ hqm,←hqe]at this
  exact this
 ·injection h with h;subst h
  refine⟨by simp[Con.size,f8],fun {w ρ vs} hl q hq=> ?_⟩
  exact hl.2 q (by simpa [Con.size]using hq)
 ·cases h
end
section
variable {X : Nat → Prop}
theorem eH {P:Program} (t:TypeId) (cs:Array Value) (w:World):(Go.newRow t cs).run P w=.ok ⟨w.heap.size,0,none⟩ {w with heap:=w.heap.push (.cells cs t (0,0))}:=rfl
section
variable {P : Program} {tt : Tab} (hT : iK P tt) {w0 w : World} {M : Nat → Prop} {h : List aV} {ρ : Rho} (m : Mem X w0 M h ρ w)
 {get:Get} (hg: ∀id c,get id=.live c→Heap.get h id=.live c) {base:Nat} (hb:Heap.get h base=.unborn) (hbl:base<h.length)
include m
include hg hb hbl in
theorem zI {ck:CK} {l:List aI} {c:Con} {sets:List (Nat×aV)} {o:List Bool} {vs:Array Value} {x:AV} {v:Value} {e:Eff}
  (hc:dY get ck l=some (c,sets,o)) (he:newRow base x c sets o=some e) (ho: ∀b∈e.obl,b=true) (hl:LR X w ρ l vs.toList) (ty:TypeId)
  (hv: ∀w' ρ',ρ' base=.row w.heap.size→w'.heap[w.heap.size]? =some (.cells vs ty (0,0))→AVR X w' ρ' x v) {s:Sem Value}
  (hs:s.run P w=.ok v {w with heap:=w.heap.push (.cells vs ty (0,0))}):Res X P w0 M h ρ w e s:=by
 injection he with he;subst he
 obtain⟨ρ1,k1,e1,e2⟩:=vN hg m hc ho (vs:=vs.toList) hl.1 hl.2
 obtain⟨g1,g2⟩:=nM m hb hbl k1 (cs:=vs) ty (by rw[e1];have:=hl.1;simp at this;omega) (fun q hq=>by
  have:=e2 q hq;simpa [Array.getD_eq_getD_getElem?,List.getD_eq_getElem?_getD]using this) (fun t ht=>by
  obtain⟨c',hc'⟩:=yL hc base t ht
  have:=hg _ _ hc'
  rw[hb]at this;cases this)
 exact⟨v,_,_,hs,g1,g2,hv _ _ (aW _ _ _) (by simp)⟩
include hT hg hb hbl in
theorem J1 {t:Nat} {e:Eff} (he:((tt.ti t).bind fun te=>(dY get (FY te.ck) te.zero).bind fun(c,s,o)=>newRow base (.c (.ptr base 0 0 0)) c s o)=some e)
  (ho: ∀b∈e.obl,b=true):Res X P w0 M h ρ w e (Instr.alloc t true (.tuple #[])):=by
 replace he:=Option.bind_eq_some_iff.1 he
 obtain⟨te,hti,he⟩:=he
 obtain⟨i,z,d,k⟩:=bR hT hti
 replace he:=Option.bind_eq_some_iff.1 he
 obtain⟨⟨c,s,o⟩,hc,he⟩:=he
 refine zI m hg hb hbl hc he ho (vs:=z.cells) (i7 k w ρ) t (fun w' ρ' hr _=> .c _ _ (.ptr base 0 0 0 _ hr)) (v:=.pointer (some ⟨w.heap.size,0,none⟩)) ?_
 simp only[Instr.alloc,Sem.run_bind,gV k,Result.andThen_ok,newVar,eH,Sem.run_pure]
include hT hg hb hbl in
theorem QO {t:Nat} {x:AV} {v:Value} (hx:AVR X w ρ x v) {e:Eff} (he:((tt.ti t).bind fun te=>(cellsOf x).bind fun l=>
   if l.length=te.size then(dY get (FY te.ck) l).bind fun(c,s,o)=>newRow base (.c (.ptr base 0 0 0)) c s o else none)=some e)
  (ho: ∀b∈e.obl,b=true):Res X P w0 M h ρ w e (Instr.box t v):=by
 replace he:=Option.bind_eq_some_iff.1 he
 obtain⟨te,hti,he⟩:=he
 replace he:=Option.bind_eq_some_iff.1 he
 obtain⟨l,hl,he⟩:=he
 split at he
 ·replace he:=Option.bind_eq_some_iff.1 he
  obtain⟨⟨c,s,o⟩,hc,he⟩:=he
  refine zI m hg hb hbl hc he ho (vs:=v.cells) (hx.lr hl) t (fun w' ρ' hr _=> .c _ _ (.ptr base 0 0 0 _ hr)) (v:=.pointer (some ⟨w.heap.size,0,none⟩)) ?_
  simp only[Instr.box,Sem.run_bind,Result.andThen_ok,newVar,eH,Sem.run_pure]
 ·cases he
include hT in
theorem J3 {t:Nat} {parts:List (Nat×Value)} {as:List (Nat×AV)} (hi:parts.map (·.1)=as.map (·.1)) (hx: ∀q,q<as.length→AVR X w ρ (as.getD q (0,.any)).2 (parts.getD q (0,undef)).2)
  {e:Eff} (he:DY tt t as=some e) {arr:Array (Nat×Value)} (harr:arr.toList=parts):Res X P w0 M h ρ w e (Instr.build t arr):=by
 unfold DY at he
 replace he:=Option.bind_eq_some_iff.1 he
 obtain⟨ti,hti,he⟩:=he
 obtain⟨i,z,d,k⟩:=bR hT hti
 have hdesc:=k.desc
 split at he
 ·rename_i fs hfs
  replace he:=Option.bind_eq_some_iff.1 he
  obtain⟨l,hf,he⟩:=he
  injection he with he;subst he
  rw[hfs]at hdesc
  cases d<;>simp only[fH]at hdesc<;>try (simp at hdesc;done)
  rename_i fields
  simp only[Bool.and_eq_true,rpS,decide_eq_true_eq,List.all_eq_true]at hdesc
  obtain⟨⟨hfl,hag⟩,hall⟩:=hdesc
  have hpl: ∀(l:List Go.Field),(∀f:Go.Field,f∈l→(((P.info? f.type).map (·.size)).getD 0)≠0)→ ∃d9:List (Nat×Nat),
    l.mapM (fun(f:Go.Field)=>(P.info? f.type).map fun i=>(f.offset,i.size))=some d9∧ ∀(j:Nat) (f:Go.Field),l[j]? =some f→ ∃i,P.info? f.type=some i∧d9[j]? =some (f.offset,i.size):=by
   intro l
   induction l with
   |nil=>intro _;exact⟨[],by simp,fun j f hj=>by simp at hj⟩
   |cons f l ih=>
    intro hl
    obtain⟨pl,p1,p2⟩:=ih fun g hg=>hl g (List.mem_cons_of_mem _ hg)
    cases hif:P.info? f.type with
    |none=>have:=hl f List.mem_cons_self;rw[hif]at this;exact absurd rfl this
    |some fi=>
     refine⟨(f.offset,fi.size)::pl,by simp[hif,p1],fun j g hj=> ?_⟩
     cases j with
     |zero=>simp at hj;subst hj;exact⟨fi,hif,by simp⟩
     |succ j=>simpa using p2 j g (by simpa using hj)
  obtain⟨d9,p1,p2⟩:=hpl fields.toList (fun f hf=>hall f hf)
  obtain⟨out,o1,o2,o3⟩:=j4 (w:=w) (ρ:=ρ) (pa:=fun i=>(fs[i]?).bind fun(o,e)=>(tt.ti e).map fun te=>(o,te.size)) (p:=(d9.toArray[·]?)) (fun j x hj=>by
   dsimp only at hj
   obtain⟨⟨o,e⟩,h1,h2⟩:=Option.bind_eq_some_iff.1 hj
   obtain⟨te,h3,h4⟩:=Option.map_eq_some_iff.1 h2
   obtain⟨i',z',d',k'⟩:=bR hT h3
   rw[←hfl,List.getElem?_map]at h1
   obtain⟨f,f1,f2⟩:=Option.map_eq_some_iff.1 h1
   injection f2 with f2 f3
   obtain⟨i'',j1,j2⟩:=p2 j f f1
   have:i''=i':=by rw[f3,k'.info]at j1;injection j1 with j1;exact j1.symm
   subst this
   subst h4
   simp[j2,f2,k'.size]) hi hx (i7 k w ρ) hf
  refine⟨.agg out,w,ρ,run_build w t arr out ?_,bN.refl _ _,m,AVR.of_lr o2⟩
  ·unfold Program.built
   rw[k.info,k.und]
   simp only[k.zero,p1,harr]
   exact o1
 ·rename_i n e' hfs
  replace he:=Option.bind_eq_some_iff.1 he
  obtain⟨te,hte,he⟩:=he
  replace he:=Option.bind_eq_some_iff.1 he
  obtain⟨l,hf,he⟩:=he
  injection he with he;subst he
  obtain⟨i',z',d',k'⟩:=bR hT hte
  rw[hfs]at hdesc
  cases d<;>simp only[fH]at hdesc<;>try (simp at hdesc;done)
  rename_i n' e''
  simp only[Bool.and_eq_true,rpS,decide_eq_true_eq]at hdesc
  obtain⟨⟨rfl,rfl⟩,hag⟩:=hdesc
  obtain⟨out,o1,o2,o3⟩:=j4 (w:=w) (ρ:=ρ) (pa:=fun i=>some (i*te.size,te.size)) (p:=fun i=>some (i*i'.size,i'.size)) (fun j x hj=>by rw[k'.size];exact hj) hi hx (i7 k w ρ) hf
  refine⟨.agg out,w,ρ,run_build w t arr out ?_,bN.refl _ _,m,AVR.of_lr o2⟩
  ·unfold Program.built
   rw[k.info,k.und]
   simp only[k.zero,k'.info,harr]
   exact o1
 ·cases he
include hT hg hb hbl in
theorem uN {t n:Nat} {parts:List (Nat×Value)} {as:List (Nat×AV)} (hi:parts.map (·.1)=as.map (·.1)) (hx: ∀q,q<as.length→AVR X w ρ (as.getD q (0,.any)).2 (parts.getD q (0,undef)).2)
  {e:Eff} (he:jV tt get base t n as=some e) (ho: ∀b∈e.obl,b=true) {arr:Array (Nat×Value)} (harr:arr.toList=parts):Res X P w0 M h ρ w e (Instr.buildSlice t n arr):=by
 unfold jV at he
 replace he:=Option.bind_eq_some_iff.1 he
 obtain⟨ti,hti,he⟩:=he
 obtain⟨i,z,d,k⟩:=bR hT hti
 have hdesc:=k.desc
 split at he
 ·rename_i e' hfs
  replace he:=Option.bind_eq_some_iff.1 he
  obtain⟨te,hte,he⟩:=he
  obtain⟨i',z',d',k'⟩:=bR hT hte
  split at he
  ·rename_i hsmall
   replace he:=Option.bind_eq_some_iff.1 he
   obtain⟨l,hf,he⟩:=he
   replace he:=Option.bind_eq_some_iff.1 he
   obtain⟨⟨c,s,o⟩,hc,he⟩:=he
   rw[hfs]at hdesc
   cases d<;>simp only[fH]at hdesc<;>try (simp at hdesc;done)
   rename_i e1
   simp only[Bool.and_eq_true,rpS,decide_eq_true_eq]at hdesc
   obtain⟨hee,hag⟩:=hdesc
   subst hee
   let zz:Array Value:=if n*i'.size=0 then #[]else z'.cells
   have hzz:LR X w ρ (lH te.zero n) ((Array.range (n*i'.size)).map (zz[· %zz.size]!)).toList:=by
    by_cases h0:n*i'.size=0
    ·rw[h0]
     have:lH te.zero n=[]:=by
      apply List.eq_nil_of_length_eq_zero;rw[f8,k'.zl,←k'.size];exact h0
     rw[this];simp;exact LR.nil w ρ
    ·have hp:0<te.zero.length:=by rw[k'.zl,←k'.size];exact(Nat.eq_zero_or_pos i'.size).elim (fun h1=>by rw[h1]at h0;simp at h0) id
     have:=kO (X:=X) (i7 k' w ρ) hp n
     rw[k'.zl,←k'.size]at this
     simpa [zz,h0]using this
   obtain⟨out,o1,o2,o3⟩:=j4 (w:=w) (ρ:=ρ) (pa:=fun i=>some (i*te.size,te.size)) (p:=fun i=>some (i*i'.size,i'.size)) (fun j x hj=>by rw[k'.size];exact hj) hi hx hzz hf
   have hout:out.size=n*te.size:=by
    have:=o2.1;rw[o3,f8,k'.zl]at this;simpa using this
   refine zI m hg hb hbl hc he ho (vs:=out) o2 e1 (fun w' ρ' hr hrow=> .c _ _ ?_) (v:=.slice (some ⟨w.heap.size,0,none⟩) n n) ?_
   ·have hsh:w'.shape? w.heap.size=some (e1,out.size):=by simp[World.shape?,hrow]
    have:=CR0.sl (w:=w') (L:=fun b=>b9 ρ' b∨X b) (ρ:=ρ') base 0 n te.size (some n) w.heap.size n e1 out.size hr hsh (by rw[hout];simp) (Nat.le_refl _) (fun q hq=>by injection hq)
    simpa using this
   ·have hs24: ¬n*i'.size>2^24:=by rw[k'.size];omega
    have hs24': ¬16777216<n*i'.size:=by omega
    subst harr
    by_cases h0:n*i'.size=0
    ·have o1':Instr.fill (fun i=>some (i*i'.size,i'.size)) ((Array.range 0).map ((#[]:Array Value)[· %(#[]:Array Value).size]!)) arr.toList=some out:=by
      simpa [zz,h0]using o1
     simp[Instr.buildSlice,run_underlying k.und,sizeOf,typeInfo,k'.info,h0]at o1'⊢
     rw[o1']
     simp only[Sem.run_map,eH,Result.andThen_ok]
     rfl
    ·exact run_buildSlice w t e1 n arr out i' z' k.und k'.info k'.zero hs24 h0 (by simpa [zz,h0]using o1)
  ·cases he
 ·cases he
end
end
end Go.Proofs.YtdnfojanjejdgaaGreat.Am
