/- DERIVED. Part 0 of the proof: Am1, Am2, Am3, Am4, Am5, Am6, Am7, Am8, Am9. No statement of the program is proved here. -/
import Derived.Orders
import Derived.Laws.CopyRow
import Derived.Laws.Append
import Derived.Laws.Cells
import Derived.KernelRfl
import Derived.Great.BuildSlice
import Derived.Laws.AppendOwn
set_option linter.unusedSimpArgs false
set_option linter.unusedVariables false
set_option linter.unusedSectionVars false
namespace Go.Proofs.YthapjdpkelihiaaGreat.Am
section
def rp2 (a r:Bool):Bool:=a&&(a&&(r))
@[simp] theorem rq2 (a r:Bool):rp2 a r=(a&&r):=by cases a<;>rfl
def rp3 (a r:Bool):Bool:=a&&(a&&(a&&(r)))
@[simp] theorem rq3 (a r:Bool):rp3 a r=(a&&r):=by cases a<;>rfl
def rp4 (a r:Bool):Bool:=a&&(a&&(a&&(a&&(r))))
@[simp] theorem rq4 (a r:Bool):rp4 a r=(a&&r):=by cases a<;>rfl
def rp5 (a r:Bool):Bool:=a&&(a&&(a&&(a&&(a&&(r)))))
@[simp] theorem rq5 (a r:Bool):rp5 a r=(a&&r):=by cases a<;>rfl
def rp6 (a r:Bool):Bool:=a&&(a&&(a&&(a&&(a&&(a&&(r))))))
@[simp] theorem rq6 (a r:Bool):rp6 a r=(a&&r):=by cases a<;>rfl
def rp7 (a r:Bool):Bool:=a&&(a&&(a&&(a&&(a&&(a&&(a&&(r)))))))
@[simp] theorem rq7 (a r:Bool):rp7 a r=(a&&r):=by cases a<;>rfl
def rp8 (a r:Bool):Bool:=a&&(a&&(a&&(a&&(a&&(a&&(a&&(a&&(r))))))))
@[simp] theorem rq8 (a r:Bool):rp8 a r=(a&&r):=by cases a<;>rfl
def rp9 (a r:Bool):Bool:=a&&(a&&(a&&(a&&(a&&(a&&(a&&(a&&(a&&(r)))))))))
@[simp] theorem rq9 (a r:Bool):rp9 a r=(a&&r):=by cases a<;>rfl
theorem rpS:(∀a r:Bool,rp2 a r=(a&&r))∧(∀a r:Bool,rp3 a r=(a&&r))∧(∀a r:Bool,rp4 a r=(a&&r))∧(∀a r:Bool,rp5 a r=(a&&r))∧(∀a r:Bool,rp6 a r=(a&&r))∧(∀a r:Bool,rp7 a r=(a&&r))∧(∀a r:Bool,rp8 a r=(a&&r))∧(∀a r:Bool,rp9 a r=(a&&r)):=
 ⟨rq2,rq3,rq4,rq5,rq6,rq7,rq8,rq9⟩
theorem bS:(!true)=false∧(!false)=true∧(∀b:Bool,(!!b)=b)∧(∀(α:Type) (a b:α),cond true a b=a)∧(∀(α:Type) (a b:α),cond false a b=b)∧(∀b:Bool,(true&&b)=b)∧(∀b:Bool,(b&&true)=b)∧(∀b:Bool,(false&&b)=false)∧(∀b:Bool,(b&&false)=false)∧(∀a b:Bool,((a&&b)=true)=(a=true∧b=true))∧(∀(p:Prop) [Decidable p],(decide p=true)=p)∧(∀p:Prop,(True∧p)=p)∧(∀p:Prop,(p∧True)=p):=
 ⟨rfl,rfl,Bool.not_not,fun _ _ _=>rfl,fun _ _ _=>rfl,Bool.true_and,Bool.and_true,Bool.false_and,Bool.and_false,Bool.and_eq_true,fun _=>decide_eq_true_eq,true_and,and_true⟩
mutual
inductive aF where
 |any
 |int (k:IntKind) (n:Int)
 |bool (b:Bool)
 |str (s:ByteArray)
 |nilp|nils|nilf
 |ptr (id i es j:Nat)
 |sl (id o len es:Nat) (cap:Option Nat)
 |vptr (c:Con) (i es j:Nat)
 |view (nl:Option Bool) (c:Con) (len es:Nat) (cap:Option Nat)
 |fn (f:FuncId) (caps:List aF)
inductive Con where
 |ints (k:IntKind) (xs:List Int)
 |bools (bs:List Bool)
 |ivs (k:IntKind) (xss:List (List Int))
 |recs (es n:Nat) (f:Nat→Nat→aF)
 |cells (cs:List aF)
end
inductive AV where
 |any
 |c (x:aF)
 |agg (cs:List aF)
 |tup (vs:List AV)
def Con.size:Con→Nat
 |.ints _ xs=>xs.length
 |.bools bs=>bs.length
 |.ivs _ xss=>xss.length
 |.recs es n _=>n*es
 |.cells cs=>cs.length
def Con.cell:Con→Nat→aF
 |.ints k xs,q=> .int k (xs.getD q 0)
 |.bools bs,q=> .bool (bs.getD q false)
 |.ivs k xss,q=> .view none (.ints k (xss.getD q [])) (xss.getD q []).length 1 none
 |.recs es _ f,q=>f (q/es) (q%es)
 |.cells cs,q=>cs.getD q .any
def ix:(i es j:Nat)→Nat
 |_,0,j=>j
 |i,1,0=>i
 |i,es,j=>i*es+j
theorem dE (i es j:Nat):ix i es j=i*es+j:=by
 unfold ix;split<;>simp
def Con.get (c:Con) (i es j:Nat):aF:=
 match c with
 |.recs e _ f=>bif e==es then f i j else .any
 |c=>c.cell (ix i es j)
def inB (i es j m n:Nat):Bool:=
 match m with
 |1=>decide (ix i es j<n)
 |m=>decide (ix i es j+m≤n)
def Con.has (c:Con) (i es j m:Nat):Bool:=
 match c with
 |.recs e n _=>(e==es)&&decide (i<n)&&decide (j+m≤e)
 |c=>inB i es j m c.size
def mD (f:Nat→aF):Nat→Nat→List aF
 |0,_=>[]
 |m+1,q=>f q::mD f m (q+1)
def Con.put (c:Con) (i es j:Nat) (x:aF):Option Con:=
 match c,x with
 |.ints k xs,.int k' n=>if k=k' then some (.ints k (xs.set (ix i es j) n))else none
 |.bools bs,.bool b=>some (.bools (bs.set (ix i es j) b))
 |.ivs k xss,.view _ (.ints k' xs) _ 1 _=>if k=k' then some (.ivs k (xss.set (ix i es j) xs))else none
 |.cells cs,x=>some (.cells (cs.set (ix i es j) x))
 |_,_=>none
def Con.puts (c:Con) (i es j:Nat):List aF→Option Con
 |[]=>some c
 |x::r=>(c.put i es j x).bind fun c'=>c'.puts i es (j+1) r
inductive CK where
 |ints (k:IntKind)|bools|ivs (k:IntKind)|cells
def mF {α:Type} (f:aF→Option α):List aF→Option (List α)
 |[]=>some []
 |x::r=>match f x,mF f r with
  |some a,some l=>some (a::l)
  |_,_=>none
def QG (k:IntKind):aF→Option Int
 |.int k' n=>if k=k' then some n else none
 |_=>none
def H7:aF→Option Bool
 |.bool b=>some b
 |_=>none
def ivC (k:IntKind):aF→Option (List Int)
 |.view _ (.ints k' xs) _ 1 _=>if k=k' then some xs else none
 |_=>none
def v4:CK→List aF→Option Con
 |.cells,l=>some (.cells l)
 |.ints k,l=>(mF (QG k) l).map (.ints k)
 |.bools,l=>(mF H7 l).map .bools
 |.ivs k,l=>(mF (ivC k) l).map (.ivs k)
def Con.app:Con→Con→Option Con
 |.ints k xs,.ints k' ys=>if k=k' then some (.ints k (xs++ys))else none
 |.bools xs,.bools ys=>some (.bools (xs++ys))
 |.ivs k xs,.ivs k' ys=>if k=k' then some (.ivs k (xs++ys))else none
 |.cells xs,.cells ys=>some (.cells (xs++ys))
 |_,_=>none
def uF {α:Type} (es:Nat) (xs:List α) (lo hi:Option Nat):List α:=
 match lo,hi with
 |none,none=>xs
 |none,some h=>xs.take (ix h es 0)
 |some l,none=>xs.drop (ix l es 0)
 |some l,some h=>(xs.take (ix h es 0)).drop (ix l es 0)
def Con.sub (es:Nat):Con→(lo hi:Option Nat)→Option Con
 |.ints k xs,lo,hi=>some (.ints k (uF es xs lo hi))
 |.bools xs,lo,hi=>some (.bools (uF es xs lo hi))
 |.ivs k xs,lo,hi=>some (.ivs k (uF es xs lo hi))
 |.cells xs,lo,hi=>some (.cells (uF es xs lo hi))
 |.recs e n f,lo,hi=>bif e==es then
   (match lo,hi with
   |none,none=>some (.recs e n f)
   |none,some h=>some (.recs e h f)
   |some l,none=>some (.recs e (n-l) fun i j=>f (i+l) j)
   |some l,some h=>some (.recs e (h-l) fun i j=>f (i+l) j))
  else none
inductive TD where
 |int (k:IntKind)|bool|str
 |slice (e:Nat)|arr (n e:Nat)
 |struct (fs:List (Nat×Nat))
 |ptr (e:Nat)
 |other
structure TI where
 size:Nat
 bytes:Nat
 agg:Bool
 zero:List aF
 ck:CK
 desc:TD
abbrev Tab:=List (Option TI)
def Tab.ti (tt:Tab) (t:Nat):Option TI:=tt.getD t none
inductive aW where
 |unborn|dead
 |live (c:Con)
structure Eff where
 val:AV
 sets:List (Nat×aW)
 obl:List Bool
structure St where
 tmps:List AV
 heap:List aW
def Heap.get (h:List aW) (id:Nat):aW:=h.getD id .unborn
def xD:Value→aF
 |.int k n=> .int k n
 |.bool b=> .bool b
 |.string s=> .str s
 |.pointer none=> .nilp
 |.slice none 0 0=> .nils
 |.nilFunc=> .nilf
 |.func (.func f) ⟨[]⟩ ⟨[]⟩=> .fn f []
 |_=> .any
def xQ:Value→AV
 |.agg cs=>bif cs.toList.all Value.oneCell' then .agg (cs.toList.map xD)else .any
 |.tuple ⟨[]⟩=> .tup []
 |.tuple _=> .any
 |v=> .c (xD v)
def St.ev (s:St):Operand→AV
 |.tmp t=>s.tmps.getD t (.tup [])
 |.const v=>xQ v
 |.global _=> .any
 |.func f=> .c (.fn f [])
abbrev Get:=Nat→aW
abbrev CT:=FuncId→List AV→Get→Nat→Option Eff
def val (x:AV) (obl:List Bool:=[]):Option Eff:=some {val:=x,sets:=[],obl}
def PP (op:BinOp) (x y:aF):Option (aF×List Bool):=
 match x,y with
 |.int k a,.int yk b=>
  match op with
  |.shl=>if(match b with|.ofNat _=>true|_=>false)then some (.int k (k.wrap (a*2^(min b.toNat k.bits))),[])else none
  |.shr=>if(match b with|.ofNat _=>true|_=>false)then some (.int k (a.fdiv (2^(min b.toNat k.bits))),[])else none
  |_=>
  if k=yk then
   match op with
   |.add=>some (.int k (k.wrap (a+b)),[])
   |.sub=>some (.int k (k.wrap (a-b)),[])
   |.mul=>some (.int k (k.wrap (a*b)),[])
   |.quo=>some (.int k (k.wrap (a.tdiv b)),[!(decide (b=0))])
   |.rem=>some (.int k (a.tmod b),[!(decide (b=0))])
   |.and=>some (.int k (k.wrap ((BitVec.ofInt k.bits a&&&BitVec.ofInt k.bits b).toNat)),[])
   |.or=>some (.int k (k.wrap ((BitVec.ofInt k.bits a|||BitVec.ofInt k.bits b).toNat)),[])
   |.xor=>some (.int k (k.wrap ((BitVec.ofInt k.bits a^^^BitVec.ofInt k.bits b).toNat)),[])
   |.eql=>some (.bool (a==b),[])
   |.neq=>some (.bool (a !=b),[])
   |.lss=>some (.bool (decide (a<b)),[])
   |.leq=>some (.bool (decide (a≤b)),[])
   |.gtr=>some (.bool (decide (a>b)),[])
   |.geq=>some (.bool (decide (a≥b)),[])
   |_=>none
  else none
 |_,_=>none
def aeq (d:TD) (x y:aF):Option aF:=
 match d,x,y with
 |.bool,.bool a,.bool b=>some (.bool (a==b))
 |.slice _,.nils,.nils=>some (.bool true)
 |.slice _,.view (some nl) _ _ _ _,.nils=>some (.bool nl)
 |_,_,_=>none
def eqI:List aF→List aF→Option Bool
 |[],[]=>some true
 |.int k a::r,.int k' b::r'=>if k=k' then(eqI r r').map ((a==b)&& ·)else none
 |_,_=>none
def x8 (tt:Tab) (op:BinOp) (t:Nat) (x y:AV):Option Eff:=
 match x,y with
 |.c x,.c y=>
  match PP op x y with
  |some (v,o)=>val (.c v) o
  |none=>
   (tt.ti t).bind fun ti=>
   match op,aeq ti.desc x y with
   |.eql,some v=>val (.c v)
   |.neq,some (.bool b)=>val (.c (.bool (!b)))
   |_,_=>none
 |.agg cs,.agg ds=>
  (tt.ti t).bind fun ti=>
  match ti.desc with
  |.arr m e=>(tt.ti e).bind fun te=>
   match te.desc with
   |.int _=>bif decide (te.size=1)&&(decide (cs.length=m)&&decide (ds.length=m))then
     match op,eqI cs ds with
     |.eql,some b=>val (.c (.bool b))
     |.neq,some b=>val (.c (.bool (!b)))
     |_,_=>none
    else none
   |_=>none
  |_=>none
 |_,_=>none
def aun (op:UnOp) (x:AV):Option Eff:=
 match op,x with
 |.not,.c (.bool b)=>val (.c (.bool (!b)))
 |.neg,.c (.int k n)=>val (.c (.int k (k.wrap (0-n))))
 |_,_=>none
def cellsOf:AV→Option (List aF)
 |.c x=>some [x]
 |.agg cs=>some cs
 |_=>none
def cP:List Nat→Bool
 |[]=>true
 |x::r=> !r.elem x&&cP r
def K1 (get:Get) (sz:Nat):aF→Option (Con×Nat×List Bool)
 |.view _ c len es _=>bif es==sz then some (c,len,[])else none
 |.sl id 0 len es _=>bif es==sz then match get id with
  |.live c=>some (c,len,[decide (ix len es 0=c.size)])
  |_=>none
  else none
 |_=>none
def hJ (get:Get) (id:Nat):Bool:=
 match get id with
 |.live _=>true
 |_=>false
mutual
def aF.ids:aF→List Nat
 |.ptr id _ _ _=>[id]
 |.sl id _ _ _ _=>[id]
 |.fn _ l=>xK l
 |_=>[]
def xK:List aF→List Nat
 |[]=>[]
 |x::r=>x.ids++xK r
end
def Con.free:Con→Bool
 |.cells l=>(xK l).isEmpty
 |.recs .. =>false
 |_=>true
def froz (get:Get):aF→Option (aF×List (Nat×aW)×List Bool)
 |.sl id 0 len es cap=>match get id with
  |.live c=>bif c.free then some (.view none c len es cap,[(id,.dead)],[decide (ix len es 0=c.size)])else none
  |_=>none
 |.sl .. =>none
 |.ptr .. =>none
 |.fn f (x::r)=>none
 |x=>some (x,[],[])
def f7 (get:Get):List aF→Option (List aF×List (Nat×aW)×List Bool)
 |[]=>some ([],[],[])
 |x::r=>match froz get x,f7 get r with
  |some (y,s,o),some (ys,s',o')=>some (y::ys,s++s',o++o')
  |_,_=>none
def f0 (get:Get) (ck:CK) (l:List aF):Option (Con×List (Nat×aW)×List Bool):=
 match ck with
 |.cells=>some (.cells l,[],[])
 |.ivs k=>match f7 get l with
  |some (l',s,o)=>(v4 (.ivs k) l').map fun c=>(c,s,o++[cP (s.map (·.1))])
  |none=>none
 |ck=>(v4 ck l).map fun c=>(c,[],[])
def newRow (base:Nat) (v:AV) (c:Con) (s:List (Nat×aW)) (o:List Bool):Option Eff:=
 some {val:=v,sets:=s++[(base,.live c)],obl:=o}
def nH (ti:TI) (c:Con) (i es j:Nat):Option Eff:=
 bif ti.agg then val (.agg (mD (fun q=>c.get i es q) ti.size j)) [c.has i es j ti.size]
 else val (.c (c.get i es j)) [c.has i es j 1]
def yN (tt:Tab) (get:Get) (t:Nat) (x:AV):Option Eff:=
 (tt.ti t).bind fun ti=>
 match x with
 |.c (.ptr id i es j)=>match get id with
  |.live c=>nH ti c i es j
  |_=>none
 |.c (.vptr c i es j)=>nH ti c i es j
 |_=>none
def BZ (tt:Tab) (get:Get) (t:Nat) (x v:AV):Option Eff:=
 (tt.ti t).bind fun ti=>
 match x,cellsOf v with
 |.c (.ptr id i es j),some l=>
  match get id with
  |.live c=>
   if l.length=ti.size then
    match c with
    |.ivs .. =>match f7 get l with
     |some (l',s,o)=>match c.puts i es j l' with
      |some c'=>some {val:=.tup [],sets:=s++[(id,.live c')],obl:=o++[cP (id::s.map (·.1)),c.has i es j ti.size]}
      |none=>none
     |none=>none
    |_=>match c.puts i es j l with
     |some c'=>some {val:=.tup [],sets:=[(id,.live c')],obl:=[c.has i es j ti.size]}
     |none=>none
   else none
  |_=>none
 |_,_=>none
def m5 (tt:Tab) (get:Get) (t:Nat) (x i:AV):Option Eff:=
 (tt.ti t).bind fun ti=>
 match ti.desc,x,i with
 |.slice e,.c (.sl id o len es _),.c (.int _ n)=>
  (tt.ti e).bind fun te=>bif decide (te.size=es)&&hJ get id then val (.c (.ptr id (n.toNat+o) es 0)) [decide (0≤n),decide (n<(len:Int))]else none
 |.slice e,.c (.view _ c len es _),.c (.int _ n)=>
  (tt.ti e).bind fun te=>bif decide (te.size=es)then val (.c (.vptr c n.toNat es 0)) [decide (0≤n),decide (n<(len:Int))]else none
 |.arr m e,.c (.ptr id i0 es0 j0),.c (.int _ n)=>
  (tt.ti e).bind fun te=>bif hJ get id then
   (match es0 with
   |0=>val (.c (.ptr id n.toNat te.size j0)) [decide (0≤n),decide (n<(m:Int))]
   |es0=>val (.c (.ptr id i0 es0 (n.toNat*te.size+j0))) [decide (0≤n),decide (n<(m:Int))])else none
 |.arr m e,.c (.vptr c i0 es0 j0),.c (.int _ n)=>
  (tt.ti e).bind fun te=>
   (match es0 with
   |0=>val (.c (.vptr c n.toNat te.size j0)) [decide (0≤n),decide (n<(m:Int))]
   |es0=>val (.c (.vptr c i0 es0 (n.toNat*te.size+j0))) [decide (0≤n),decide (n<(m:Int))])
 |_,_,_=>none
def field? (fs:List (Nat×Nat)) (f:Nat):Option (Nat×Nat):=fs[f]?
def lZ (tt:Tab) (get:Get) (t:Nat) (x:AV) (f:Nat):Option Eff:=
 (tt.ti t).bind fun ti=>
 match ti.desc,x with
 |.struct fs,.c (.ptr id i es j)=>bif hJ get id then(field? fs f).bind fun(o,_)=>val (.c (.ptr id i es (j+o)))else none
 |.struct fs,.c (.vptr c i es j)=>(field? fs f).bind fun(o,_)=>val (.c (.vptr c i es (j+o)))
 |_,_=>none
def apart (tt:Tab) (e:Nat) (cs:List aF) (off:Nat):Option AV:=
 (tt.ti e).bind fun te=>
 bif te.agg then some (.agg ((cs.drop off).take te.size))else(cs[off]?).map .c
def BW (tt:Tab) (t:Nat) (x:AV) (f:Nat):Option Eff:=
 (tt.ti t).bind fun ti=>
 match ti.desc,x with
 |.struct fs,.agg cs=>(field? fs f).bind fun(o,e)=>(apart tt e cs o).bind fun v=>val v
 |_,_=>none
def BX (tt:Tab) (t:Nat) (x i:AV):Option Eff:=
 (tt.ti t).bind fun ti=>
 match ti.desc,x,i with
 |.arr m e,.agg cs,.c (.int _ n)=>
  (tt.ti e).bind fun te=>(apart tt e cs (n.toNat*te.size)).bind fun v=>val v [decide (0≤n),decide (n<(m:Int))]
 |.str,.c (.str s),.c (.int _ n)=>val (.c (.int .u8 ((s.data.getD n.toNat 0).toNat:Int))) [decide (0≤n),decide (n<(s.size:Int))]
 |_,_,_=>none
def sL (place:Nat→Option (Nat×Nat)) (cells:List aF):List (Nat×AV)→Option (List aF)
 |[]=>some cells
 |(i,v)::rest=>
  match place i,cellsOf v with
  |some (off,size),some l=>
   if l.length=size∧off+size≤cells.length then sL place (cells.take off++l++cells.drop (off+size)) rest else none
  |_,_=>none
def BU (tt:Tab) (t:Nat) (parts:List (Nat×AV)):Option Eff:=
 (tt.ti t).bind fun ti=>
 match ti.desc with
 |.struct fs=>(sL (fun i=>(fs[i]?).bind fun(o,e)=>(tt.ti e).map fun te=>(o,te.size)) ti.zero parts).bind fun l=>val (.agg l)
 |.arr _ e=>(tt.ti e).bind fun te=>(sL (fun i=>some (i*te.size,te.size)) ti.zero parts).bind fun l=>val (.agg l)
 |_=>none
def nS (l:List aF):Nat→List aF
 |0=>[]
 |n+1=>l++nS l n
def jU (tt:Tab) (get:Get) (base t n:Nat) (parts:List (Nat×AV)):Option Eff:=
 (tt.ti t).bind fun ti=>
 match ti.desc with
 |.slice e=>(tt.ti e).bind fun te=>
  if n*te.size≤4096 then
  (sL (fun i=>some (i*te.size,te.size)) (nS te.zero n) parts).bind fun l=>
  (f0 get te.ck l).bind fun(c,s,o)=>newRow base (.c (.sl base 0 n te.size (some n))) c s o
  else none
 |_=>none
def isZ (k:IntKind):aF→Bool
 |.int k' n=>decide (k=k')&&decide (n=0)
 |_=>false
def rK:CK→List aF→Nat→Option Con
 |.ints k,[z],n=>bif isZ k z then some (.ints k (List.replicate n 0))else none
 |.ints k,z,n=>bif z.all (isZ k)then some (.ints k (List.replicate (n*z.length) 0))else none
 |.bools,[.bool false],n=>some (.bools (List.replicate n false))
 |.ivs k,[.nils],n=>some (.ivs k (List.replicate n []))
 |.cells,z,n=>some (.cells (nS z n))
 |_,_,_=>none
def m7 (tt:Tab) (base t:Nat) (len cap:AV):Option Eff:=
 (tt.ti t).bind fun ti=>
 match ti.desc,len,cap with
 |.slice e,.c (.int _ n),.c (.int _ m)=>(tt.ti e).bind fun te=>
  if te.bytes≤256∧te.size≠0 then
   (rK te.ck te.zero n.toNat).bind fun c=>
   newRow base (.c (.sl base 0 n.toNat te.size (some m.toNat))) c [] [decide (0≤n),decide (n≤m),decide (m≤274877906944)]
  else none
 |_,_,_=>none
def bnd:Option AV→Option (Option Int)
 |none=>some none
 |some (.c (.int _ n))=>some (some n)
 |_=>none
def J6 (o:Option Int) (d:Int):Int:=
 match o with
 |some x=>x
 |none=>d
def inO (o:Option Int) (d:Int):List Bool:=
 match o with
 |some x=>[decide (0≤x),decide (x≤d)]
 |none=>[]
def iS (len:Nat) (lo hi mx:Option Int):List Bool:=
 inO lo (J6 hi len)++(inO hi (J6 mx len)++inO mx len)
def EP (n:Nat):Option Int→Nat
 |some l=>n-l.toNat
 |none=>n
def JA (o:Nat):Option Int→Nat
 |some l=>l.toNat+o
 |none=>o
def mA (len:Nat):Option Int→Nat
 |some h=>h.toNat
 |none=>len
def DE (cap:Option Nat) (lo mx:Option Int):Option Nat:=
 match mx with
 |some m=>some (EP m.toNat lo)
 |none=>match cap with
  |some c=>some (EP c lo)
  |none=>none
def BY (tt:Tab) (get:Get) (t:Nat) (x:AV) (lo hi mx:Option AV):Option Eff:=
 (tt.ti t).bind fun ti=>
 (bnd lo).bind fun l=>(bnd hi).bind fun h=>(bnd mx).bind fun m=>
 match ti.desc,x with
 |.slice e,.c (.sl id o len es cap)=>(tt.ti e).bind fun te=>
  bif decide (te.size=es)&&hJ get id&&(m.isNone||h.isSome)then
  val (.c (.sl id (JA o l) (EP (mA len h) l) es (DE cap l m))) (iS len l h m)
  else none
 |.slice e,.c (.view _ c len es cap)=>(tt.ti e).bind fun te=>
  bif decide (te.size=es)&&(m.isNone||h.isSome)then
  (c.sub es (l.map Int.toNat) (h.map Int.toNat)).bind fun c'=>
  val (.c (.view none c' (EP (mA len h) l) es (DE cap l m))) (iS len l h m)
  else none
 |.arr n e,.c (.ptr id 0 0 0)=>(tt.ti e).bind fun te=>
  match l,h,m,get id with
  |none,none,none,.live c=>val (.c (.sl id 0 n te.size (some n))) [decide (n*te.size≤c.size)]
  |_,_,_,_=>none
 |_,_=>none
def wZ (tt:Tab) (get:Get) (base:Nat) (t u:Nat) (s x:AV):Option Eff:=
 (tt.ti t).bind fun ti=>(tt.ti u).bind fun ui=>
 match ti.desc,ui.desc,s,x with
 |.slice e,.slice _,.c s,.c x=>(tt.ti e).bind fun te=>
  if te.bytes≤256∧te.size≠0 then
  (K1 get te.size x).bind fun(cx,n,ox)=>
  match s with
  |.nils=>newRow base (.c (.sl base 0 n te.size none)) cx [] (ox++[decide (n≤274877906944)])
  |.view _ _ 0 _ (some 0)=>newRow base (.c (.sl base 0 n te.size none)) cx [] (ox++[decide (n≤274877906944)])
  |.sl id 0 len es cap=>
   bif es==te.size then
   match get id with
   |.live c=>(match c.app cx with
    |some c'=>newRow base (.c (.sl base 0 (len+n) es none)) c' [(id,.dead)] (ox++[decide (ix len es 0=c.size),decide (len+n≤274877906944)])
    |none=>none)
   |_=>none
   else none
  |_=>none
  else none
 |_,_,_,_=>none
def s8 (tt:Tab) (get:Get) (base:Nat) (t u:Nat) (s:AV) (n:Int):Option Eff:=
 (tt.ti t).bind fun ti=>(tt.ti u).bind fun ui=>
 match ti.desc,ui.desc,s with
 |.slice e,.int _,.c (.sl id 0 len es _)=>(tt.ti e).bind fun te=>
  if te.bytes≤256∧te.size≠0∧es=te.size then
   (rK te.ck te.zero n.toNat).bind fun cx=>
   match get id with
   |.live c=>(match c.app cx with
    |some c'=>newRow base (.c (.sl base 0 (len+n.toNat) es none)) c' [(id,.dead)] [decide (0≤n),decide (ix len es 0=c.size),decide ((len:Int)+n≤274877906944)]
    |none=>none)
   |_=>none
  else none
 |_,_,_=>none
def PQ (tt:Tab) (get:Get) (t:Nat) (x:AV):Option Eff:=
 (tt.ti t).bind fun ti=>
 match ti.desc,x with
 |.slice _,.c (.nils)=>val (.c (.int .i64 0))
 |.slice _,.c (.sl id _ len _ _)=>bif hJ get id then val (.c (.int .i64 (len:Int)))else none
 |.slice _,.c (.view _ _ len _ _)=>val (.c (.int .i64 (len:Int)))
 |.str,.c (.str s)=>val (.c (.int .i64 (s.size:Int)))
 |_,_=>none
def gM (xs:List Int) (o n:Nat):List Int:=xs.take o++(List.replicate n 0++xs.drop (o+n))
def BV (tt:Tab) (get:Get) (t:Nat) (x:AV):Option Eff:=
 (tt.ti t).bind fun ti=>
 match ti.desc,x with
 |.slice e,.c (.sl id o len 1 _)=>(tt.ti e).bind fun te=>
  match te.zero,get id with
  |[z],.live (.ints k xs)=>bif isZ k z then some {val:=.tup [],sets:=[(id,.live (.ints k (gM xs o len)))],obl:=[decide (o+len≤xs.length)]}else none
  |_,_=>none
 |_,_=>none
def pH {α:Type} (xs:List α) (o:Nat) (seg:List α):List α:=xs.take o++(seg++xs.drop (o+seg.length))
def GX (tt:Tab) (get:Get) (t:Nat) (x y:AV):Option Eff:=
 (tt.ti t).bind fun ti=>
 match ti.desc,x,y with
 |.slice e,.c (.sl id o len 1 _),.c (.sl id2 o2 len2 1 _)=>(tt.ti e).bind fun te=>
  bif decide (te.size=1)then
   match get id,get id2 with
   |.live (.ints k xs),.live (.ints k' ys)=>if k=k' then
     some {val:=.c (.int .i64 (Nat.min len2 len:Nat)),sets:=[(id,.live (.ints k (pH xs o ((ys.drop o2).take (Nat.min len2 len)))))],obl:=[decide (0<len),decide (0<len2),decide (o+len≤xs.length),decide (o2+len2≤ys.length)]}
    else none
   |.live (.bools xs),.live (.bools ys)=>
     some {val:=.c (.int .i64 (Nat.min len2 len:Nat)),sets:=[(id,.live (.bools (pH xs o ((ys.drop o2).take (Nat.min len2 len)))))],obl:=[decide (0<len),decide (0<len2),decide (o+len≤xs.length),decide (o2+len2≤ys.length)]}
   |_,_=>none
  else none
 |_,_,_=>none
def EA (isMax:Bool) (x y:AV):Option Eff:=
 match x,y with
 |.c (.int k a),.c (.int k' b)=>if k=k' then val (.c (.int k (bif isMax then(if b>a then b else a)else(if b<a then b else a))))else none
 |_,_=>none
def hX:List AV→Option (List aF)
 |[]=>some []
 |.c x::r=>(hX r).map (x:: ·)
 |_::_=>none
end
section
mutual
def AV.ids:AV→List Nat
 |.any=>[]
 |.c x=>x.ids
 |.agg l=>xK l
 |.tup vs=>QF vs
def QF:List AV→List Nat
 |[]=>[]
 |x::r=>x.ids++QF r
end
def rI:aW→List Nat
 |.live (.cells l)=>xK l
 |_=>[]
def sG:Op→Bool
 |.call {callee:=.value _,..}=>true
 |_=>false
def HP (deep:Bool) (h:List aW) (vs:List AV):List Nat:=
 let l:=QF vs
 l++bif deep then l.flatMap (fun id=>rI (Heap.get h id))else []
def fpO (op:Op) (h:List aW) (vs:List AV):List Nat:=
 match op with
 |.move _|.assign _=>[]
 |op=>HP (sG op) h vs
def only (h:List aW) (fp:List Nat):Get:=fun id=>bif fp.elem id then Heap.get h id else .unborn
def D9:CK→CK
 |.ivs _=> .cells
 |k=>k
def H5:AV→AV→AV→Option Eff
 |.c (.bool c),.tup [],y=>val y [!c]
 |.c (.bool c),x,.tup []=>val x [c]
 |.c (.bool c),.c (.bool x),.c (.bool y)=>val (.c (.bool (bif c then x else y)))
 |_,_,_=>none
def PR (get:Get):AV→Option Eff
 |.c (.ptr id i es j)=>match get id with
  |.live _=>val (.c (.ptr id i es j))
  |_=>none
 |.c (.vptr c i es j)=>val (.c (.vptr c i es j))
 |.c (.fn f l)=>val (.c (.fn f l))
 |_=>none
def sA (x:AV) (i:Nat):Option Eff:=
 match x with
 |.tup vs=>(vs[i]?).bind fun v=>val v
 |_=>none
def s9 (tt:Tab) (s t:Nat) (x:AV):Option Eff:=
 (tt.ti s).bind fun si=>(tt.ti t).bind fun ti=>
 match si.desc,ti.desc,x with
 |.int _,.int k,.c (.int _ n)=>val (.c (.int k (k.wrap n)))
 |.str,.str,.c (.str s)=>val (.c (.str s))
 |_,_,_=>none
def aop (tt:Tab) (ct:CT) (get:Get) (base:Nat) (ev:Operand→AV):Op→Option Eff
 |.move x|.assign x=>val (ev x)
 |.pick c a b=>H5 (ev c) (ev a) (ev b)
 |.alloc e=>(tt.ti e).bind fun te=>(f0 get (D9 te.ck) te.zero).bind fun(c,s,o)=>newRow base (.c (.ptr base 0 0 0)) c s o
 |.box e x=>(tt.ti e).bind fun te=>(cellsOf (ev x)).bind fun l=>
   if l.length=te.size then(f0 get (D9 te.ck) l).bind fun(c,s,o)=>newRow base (.c (.ptr base 0 0 0)) c s o else none
 |.build t parts=>BU tt t (parts.toList.map fun(i,x)=>(i,ev x))
 |.buildSlice t n parts=>jU tt get base t n (parts.toList.map fun(i,x)=>(i,ev x))
 |.load t x=>yN tt get t (ev x)
 |.store t x v=>BZ tt get t (ev x) (ev v)
 |.nilCheck x=>PR get (ev x)
 |.binOp op t x y _=>x8 tt op t (ev x) (ev y)
 |.unOp op _ x=>aun op (ev x)
 |.convert s t x=>s9 tt s t (ev x)
 |.makeFunc (.func f) first caps=>match first.toList with
  |[]=>(hX (caps.toList.map ev)).bind fun l=>val (.c (.fn f l))
  |_=>none
 |.makeSlice t l c=>m7 tt base t (ev l) (ev c)
 |.slice t x lo hi mx=>BY tt get t (ev x) (lo.map ev) (hi.map ev) (mx.map ev)
 |.fieldAddr t x f=>lZ tt get t (ev x) f
 |.field t x f=>BW tt t (ev x) f
 |.indexAddr t x i=>m5 tt get t (ev x) (ev i)
 |.index t x i=>BX tt t (ev x) (ev i)
 |.extract x i=>sA (ev x) i
 |.call {callee:=.builtin b,args,argTypes}=>
  match b,args.toList,argTypes.toList with
  |.len,[x],[t]=>PQ tt get t (ev x)
  |.append,[s,x],[t,u]=>match ev x with
   |.c (.int _ n)=>s8 tt get base t u (ev s) n
   |y=>wZ tt get base t u (ev s) y
  |.clear,[x],[t]=>BV tt get t (ev x)
  |.copy,[x,y],[t,_]=>GX tt get t (ev x) (ev y)
  |.max,[x,y],_=>EA true (ev x) (ev y)
  |.min,[x,y],_=>EA false (ev x) (ev y)
  |_,_,_=>none
 |.call {callee:=.value f,args,..}=>match ev f with
  |.c (.fn f caps)=>ct f (args.toList.map ev++caps.map .c) get base
  |_=>none
 |_=>none
def slots:Op→Nat
 |.alloc _|.box .. |.buildSlice .. |.makeSlice .. =>1
 |.call {callee:=.builtin .append,..}=>1
 |.call {callee:=.value _,..}=>8
 |_=>0
def qY (tmps:List AV) (dst:Option Nat) (v:AV):List AV:=
 match dst with
 |some d=>tmps.set d v
 |none=>tmps
def cV (h:List aW):List (Nat×aW)→List aW
 |[]=>h
 |(i,s)::r=>cV (h.set i s) r
structure Rec where
 i:Nat
 o:Oper
 base:Nat
 dec:Option Bool
 fp:List Nat
 eff:Eff
def cO (o:Oper):List Operand:=o.op.operands.toList
def uG (ops:Array Oper) (tmps:List AV) (j:Nat):AV:=
 match(ops[j]?).bind (·.dst)with
 |some d=>tmps.getD d (.tup [])
 |none=> .tup []
def iC (tt:Tab) (ct:CT) (ops:Array Oper) (s:St) (o:Oper) (base:Nat) (dec:Option Bool):Option (List Nat×Eff):=
 let fp:=fpO o.op s.heap ((cO o).map s.ev)
 let run:Option Eff:=aop tt ct (only s.heap fp) base s.ev o.op
 match o.guard,dec with
 |none,none=>run.map fun e=>(fp,e)
 |some (j,want),some true=>
  match uG ops s.tmps j with
  |.c (.bool b)=>run.map fun e=>(fp,{e with obl:=(bif want then b else !b)::e.obl})
  |_=>none
 |some (j,want),some false=>
  match uG ops s.tmps j with
  |.c (.bool b)=>some (fp,{val:=.tup [],sets:=[],obl:=[bif want then !b else b]})
  |.tup []=>some (fp,{val:=.tup [],sets:=[],obl:=[]})
  |_=>none
 |_,_=>none
def dG (s:St) (dst:Option Nat) (e:Eff):St:= {tmps:=qY s.tmps dst e.val,heap:=cV s.heap e.sets}
abbrev i6:=List (Nat×Bool)
def i6.take (p:i6) (x:AV):Option (Bool×i6):=
 match p,x with
 |(0,b)::r,.c (.bool _)=>some (b,r)
 |(n+1,b)::r,.c (.bool c)=>some (c,(n,b)::r)
 |[],.c (.bool c)=>some (c,[])
 |_,_=>none
abbrev yH:=List (Nat×Bool)
def known? (k:yH) (j:Nat):Option Bool:=
 match k with
 |[]=>none
 |(i,b)::r=>bif i==j then some b else known? r j
def W2 (ops:Array Oper) (s:St) (o:Oper) (kn:yH) (p:i6):Option (Option Bool×yH×i6):=
 match o.guard with
 |none=>some (none,kn,p)
 |some (j,want)=>
  match uG ops s.tmps j with
  |.tup []=>some (some false,kn,p)
  |x=>match known? kn j with
   |some b=>some (some (bif want then b else !b),kn,p)
   |none=>(p.take x).map fun(b,r)=>(some (bif want then b else !b),(j,b)::kn,r)
def pC (tt:Tab) (ct:CT) (ops:Array Oper):List Oper→(i base:Nat)→St→yH→i6→Option (List Rec×St×i6×List Bool)
 |[],_,_,s,_,p=>some ([],s,p,[])
 |o::rest,i,base,s,kn,p=>
  match W2 ops s o kn p with
  |none=>none
  |some (dec,kn,p)=>
   match iC tt ct ops s o base dec with
   |none=>none
   |some (fp,e)=>
    bif !(e.sets.all fun x=>Nat.blt x.1 (base+slots o.op))then none else
    match pC tt ct ops rest (i+1) (base+slots o.op) (dG s o.dst e) kn p with
    |none=>none
    |some (rs,s',p',b)=>some ({i,o,base,dec,fp,eff:=e}::rs,s',p',e.obl++b)
def qM:List Oper→Nat
 |[]=>0
 |o::r=>slots o.op+qM r
def cL:Nat→Nat→List Nat
 |0,_=>[]
 |n+1,k=>k::cL n (k+1)
def HZ (ms:List Nat) (o:Oper):Nat:=
 o.after.toList.foldl (fun s e=>bif Region.binds .any e then s|||(2^e.on|||ms.getD e.on 0)else s) 0
def DS:List Oper→List Nat→List Nat
 |[],acc=>acc
 |o::r,acc=>DS r (acc++[HZ acc o])
def LS (ops:List Oper):List Nat:=DS ops []
def sV (ms:List Nat):List Oper→Nat→Bool
 |[],_=>true
 |o::r,i=>(ms.getD i 0==HZ ms o)&&o.after.toList.all (fun e=> !Region.binds .any e||Nat.blt e.on i)&&sV ms r (i+1)
def DT (a b:List Nat):Bool:=a.any fun x=>b.elem x
def Rec.writes (r:Rec):List Nat:=r.eff.sets.map (·.1)++cL (slots r.o.op) r.base
def q8 (ops:Array Oper) (x y:Rec):Bool:=
 Oper.apart ops x.o y.o&& !DT x.writes y.fp&& !DT y.writes x.fp&& !DT x.writes y.writes
def nD (ops:Array Oper) (ms:List Nat):List Rec→Bool
 |[]=>true
 |x::r=>(r.all fun y=>(ms.getD y.i 0).testBit x.i||q8 ops x y)&&nD ops ms r
def rG (ops:Array Oper) (rs:List Rec):Bool:=
 let ms:=LS ops.toList
 sV ms ops.toList 0&&nD ops ms rs
inductive Ex where
 |normal
 |exit (id:Nat)
 |ret
 deriving DecidableEq
structure LC where
 live:List Nat
 pre:St
 ex:Ex
 post:St
structure Out where
 ex:Ex
 st:St
 path:i6
 obl:List Bool
 eqs:List Prop
def idx? (l:List Nat) (id:Nat):Option Nat:=
 match l with
 |[]=>none
 |x::r=>if x=id then some 0 else(idx? r id).map (· +1)
mutual
def aF.ren (l:List Nat):aF→aF
 |.ptr id i es j=>match idx? l id with
  |some k=> .ptr k i es j
  |none=> .any
 |.sl id o len es cap=>match idx? l id with
  |some k=> .sl k o len es none
  |none=> .any
 |.fn f caps=> .fn f (uK l caps)
 |x=>x
def uK (l:List Nat):List aF→List aF
 |[]=>[]
 |x::r=>x.ren l::uK l r
end
mutual
def AV.ren (l:List Nat):AV→AV
 |.any=> .any
 |.c x=> .c (x.ren l)
 |.agg cs=> .agg (uK l cs)
 |.tup vs=> .tup (zT l vs)
def zT (l:List Nat):List AV→List AV
 |[]=>[]
 |x::r=>x.ren l::zT l r
end
def aW.ren (l:List Nat):aW→aW
 |.live (.cells cs)=> .live (.cells (uK l cs))
 |.live (.recs ..)=> .dead
 |s=>s
def sQ (live:List Nat) (order:List Nat):List AV→Nat→List AV
 |[],_=>[]
 |v::r,t=>(bif live.elem t then v.ren order else .any)::sQ live order r (t+1)
def remap (live order:List Nat) (s:St):St:=
 {tmps:=sQ live order s.tmps 0,heap:=order.map fun id=>(Heap.get s.heap id).ren order}
def fC:Nat→Nat→List Nat→Bool
 |0,_,_=>true
 |m+1,k,x::r=>(x==k)&&fC m (k+1) r
 |_+1,_,[]=>false
def jL:List Nat→List Nat→List Nat
 |acc,[]=>acc
 |acc,x::r=>bif acc.elem x then jL acc r else jL (acc++[x]) r
def J7 (m:Nat) (live:List Nat) (s:St):List Nat:=
 let l:=jL (cL m 0) (live.flatMap fun t=>(s.tmps.getD t (.tup [])).ids)
 jL l (l.flatMap fun id=>rI (Heap.get s.heap id))
def fit (m:Nat) (live:List Nat) (s:St):St:=remap live (J7 m live s) s
def xH (lc:List (Nat×LC)) (id:Nat):Option LC:=
 match lc with
 |[]=>none
 |(k,x)::r=>if k=id then some x else xH r id
def aG (tt:Tab) (ct:CT) (lc:List (Nat×LC)) (m:Nat):Nat→Code→St→i6→Option Out
 |0,_,_,_=>none
 |n+1,c,s,p=>
  match c with
  |.skip=>some ⟨.normal,s,p,[],[]⟩
  |.label _=>some ⟨.normal,s,p,[],[]⟩
  |.ret=>some ⟨.ret,s,p,[],[]⟩
  |.exit id=>some ⟨.exit id,s,p,[],[]⟩
  |.region _ ops draw=>
   let l:=ops.toList
   match pC tt ct ops l 0 s.heap.length {s with heap:=s.heap++List.replicate (qM l) .unborn} [] p with
   |none=>none
   |some (rs,s',p',b)=>
    bif !draw||rG ops rs then some ⟨.normal,s',p',b,[]⟩else none
  |.seq a b=>
   match aG tt ct lc m n a s p with
   |some ⟨.normal,s',p',o,q⟩=>
    match aG tt ct lc m n b s' p' with
    |some ⟨e,s'',p'',o',q'⟩=>some ⟨e,s'',p'',o++o',q++q'⟩
    |none=>none
   |r=>r
  |.cond x a b=>
   match p.take (s.ev x)with
   |none=>none
   |some (t,p')=>
    match s.ev x with
    |.c (.bool v)=>
     match aG tt ct lc m n (bif t then a else b) s p' with
     |some ⟨e,s',p'',o,q⟩=>some ⟨e,s',p'',(bif t then v else !v)::o,q⟩
     |none=>none
    |_=>none
  |.block id body=>
   match xH lc id with
   |some x=>some ⟨x.ex,x.post,p,[],[fit m x.live s=x.pre]⟩
   |none=>
    match aG tt ct lc m n body s p with
    |some ⟨.exit k,s',p',o,q⟩=>some ⟨if k=id then .normal else .exit k,s',p',o,q⟩
    |r=>r
  |.loop body=>
   match aG tt ct lc m n body s p with
   |some ⟨.normal,s',p',o,q⟩=>
    match aG tt ct lc m n (.loop body) s' p' with
    |some ⟨e,s'',p'',o',q'⟩=>some ⟨e,s'',p'',o++o',q++q'⟩
    |none=>none
   |r=>r
  |.scope body=>none
  |_=>none
def eG (m:Nat) (res:AV) (h:List aW):List Nat:=
 let l:=jL (cL m 0) res.ids
 jL l (l.flatMap fun id=>rI (Heap.get h id))
def H1:List Bool→Bool
 |[]=>true
 |b::r=>b&&H1 r
structure tZ where
 res:AV
 heap:List aW
 obl:Bool
 eqs:List Prop
def CI (tt:Tab) (s:St):ResultVar→Option (AV×List Bool)
 |.tmp t=>some (s.tmps.getD t (.tup []),[])
 |.cell a t=>(yN tt (Heap.get s.heap) t (s.tmps.getD a (.tup []))).map fun e=>(e.val,e.obl)
def nT (tt:Tab) (s:St):List ResultVar→Option (List AV×List Bool)
 |[]=>some ([],[])
 |x::r=>match CI tt s x,nT tt s r with
  |some (v,o),some (vs,o')=>some (v::vs,o++o')
  |_,_=>none
def E3 (fn:Func) (args:List AV) (heap:List aW):St:=
 {tmps:=args++List.replicate (fn.ntmps-args.length) (.tup []),heap}
def qX:List AV→AV
 |[v]=>v
 |vs=> .tup vs
def aD (tt:Tab) (ct:CT) (lc:List (Nat×LC)) (fuel:Nat) (fn:Func) (args:List AV) (heap:List aW) (p:i6):Option tZ:=
 match fn.body with
 |none=>none
 |some c=>
  match aG tt ct lc heap.length fuel c (E3 fn args heap) p with
  |some ⟨.exit _,_,_,_,_⟩=>none
  |some ⟨_,s,_,o,q⟩=>
   match nT tt s fn.results.toList with
   |none=>none
   |some (vs,o')=>
    let res:=qX vs
    let l:=eG heap.length res s.heap
    some ⟨res.ren l,l.map fun id=>(Heap.get s.heap id).ren l,H1 (o++o'),q⟩
  |none=>none
end
section
variable {X : Nat → Prop}
inductive Wh where
 |unborn|dead|nil
 |row (b:Nat)
abbrev Rho:=Nat→Wh
def bH (ρ:Rho) (b:Nat):Prop:= ∃id,ρ id=.row b
def mR (cap:Option Nat) (c:Nat):Prop:= ∀k,cap=some k→c=k
def noIds:Rho:=fun _=> .unborn
inductive CR0 (w:World) (L:Nat→Prop):Rho→aF→Value→Prop
 |any {ρ:Rho} (v:Value) (h:v.oneCell'=true):CR0 w L ρ .any v
 |int {ρ:Rho} (k:IntKind) (n:Int):CR0 w L ρ (.int k n) (.int k n)
 |bool {ρ:Rho} (b:Bool):CR0 w L ρ (.bool b) (.bool b)
 |str {ρ:Rho} (s:ByteArray):CR0 w L ρ (.str s) (.string s)
 |nilp {ρ:Rho}:CR0 w L ρ .nilp (.pointer none)
 |nils {ρ:Rho}:CR0 w L ρ .nils (.slice none 0 0)
 |nilf {ρ:Rho}:CR0 w L ρ .nilf .nilFunc
 |ptrDead {ρ:Rho} (id i es j:Nat) (v:Value) (hd:ρ id=.dead) (h:v.oneCell'=true):CR0 w L ρ (.ptr id i es j) v
 |ptr {ρ:Rho} (id i es j b:Nat) (hb:ρ id=.row b):CR0 w L ρ (.ptr id i es j) (.pointer (some ⟨b,i*es+j,none⟩))
 |slDead {ρ:Rho} (id o len es:Nat) (cap:Option Nat) (v:Value) (hd:ρ id=.dead) (h:v.oneCell'=true):CR0 w L ρ (.sl id o len es cap) v
 |sl {ρ:Rho} (id o len es:Nat) (cap:Option Nat) (b c:Nat) (ty:TypeId) (n:Nat) (hb:ρ id=.row b) (hs:w.shape? b=some (ty,n)) (hn:(o+c)*es≤n)
   (hl:len≤c) (hc:mR cap c):CR0 w L ρ (.sl id o len es cap) (.slice (some ⟨b,o*es,none⟩) len c)
 |slNone {ρ:Rho} (id o es:Nat) (cap:Option Nat) (a:Option Addr) (h1:ρ id≠ .unborn) (hc:mR cap 0):CR0 w L ρ (.sl id o 0 es cap) (.slice a 0 0)
 |vptr {ρ:Rho} (c:Con) (i es j b base:Nat) (u:Nat→Value) (hl:0<c.size→ ¬L b) (hc: ∀q,q<c.size→w.cell? ⟨b,base+q,none⟩=some (u q))
   (hu: ∀q,q<c.size→CR0 w L noIds (c.cell q) (u q)):CR0 w L ρ (.vptr c i es j) (.pointer (some ⟨b,base+(i*es+j),none⟩))
 |view {ρ:Rho} (nl:Option Bool) (c:Con) (len es:Nat) (cap:Option Nat) (b base k:Nat) (u:Nat→Value) (hl:0<c.size→ ¬L b)
   (hc: ∀q,q<c.size→w.cell? ⟨b,base+q,none⟩=some (u q)) (hu: ∀q,q<c.size→CR0 w L noIds (c.cell q) (u q)) (hz:len*es=c.size) (hk:len≤k)
   (hcap:mR cap k) (hnl: ∀x,nl=some x→x=false):CR0 w L ρ (.view nl c len es cap) (.slice (some ⟨b,base,none⟩) len k)
 |viewNone {ρ:Rho} (nl:Option Bool) (c:Con) (es:Nat) (cap:Option Nat) (a:Option Addr) (k:Nat) (hz:c.size=0) (hcap:mR cap k) (hnl: ∀x,nl=some x→x=a.isNone) (hk:a=none→k=0):
   CR0 w L ρ (.view nl c 0 es cap) (.slice a 0 k)
 |fn {ρ:Rho} (f:FuncId) (caps:List aF) (vs:Array Value) (hs:vs.size=caps.length) (h: ∀i,i<caps.length→CR0 w L ρ (caps.getD i .any) (vs.getD i undef)):
   CR0 w L ρ (.fn f caps) (.func (.func f) #[] vs)
abbrev CR (X:Nat→Prop) (w:World) (ρ:Rho):aF→Value→Prop:=CR0 w (fun b=>bH ρ b∨X b) ρ
theorem CR.one {w:World} {ρ:Rho} {c:aF} {v:Value} (h:CR X w ρ c v):v.oneCell'=true:=by
 cases h<;>first|assumption|rfl
inductive AVR (X:Nat→Prop) (w:World) (ρ:Rho):AV→Value→Prop
 |any (v:Value):AVR X w ρ .any v
 |c (x:aF) (v:Value) (h:CR X w ρ x v):AVR X w ρ (.c x) v
 |agg (cs:List aF) (vs:Array Value) (hs:vs.size=cs.length) (h: ∀i,i<cs.length→CR X w ρ (cs.getD i .any) (vs.getD i undef)):AVR X w ρ (.agg cs) (.agg vs)
 |tup (l:List AV) (vs:Array Value) (hs:vs.size=l.length) (h: ∀i,i<l.length→AVR X w ρ (l.getD i (.tup [])) (vs.getD i undef)):AVR X w ρ (.tup l) (.tuple vs)
structure bN (w:World) (ρ:Rho) (w':World) (ρ':Rho):Prop where
 keep: ∀b,b<w.heap.size→ ¬bH ρ b→w'.heap[b]? =w.heap[b]?
 shape: ∀b,b<w.heap.size→w'.shape? b=w.shape? b
 size:w.heap.size≤w'.heap.size
 dead: ∀id,ρ id=.dead→ρ' id=.dead
 nil: ∀id,ρ id=.nil→ρ' id=.nil∨ρ' id=.dead
 at_: ∀id b,ρ id=.row b→ρ' id=.row b∨ρ' id=.dead
 fresh: ∀id b,ρ' id=.row b→bH ρ b∨w.heap.size≤b
theorem bN.refl (w:World) (ρ:Rho):bN w ρ w ρ:=
 ⟨fun _ _ _=>rfl,fun _ _=>rfl,Nat.le_refl _,fun _ h=>h,fun _ h=> .inl h,fun _ _ h=> .inl h,fun id _ h=> .inl ⟨id,h⟩⟩
theorem bN.trans {w w1 w2:World} {ρ ρ1 ρ2:Rho} (a:bN w ρ w1 ρ1) (b:bN w1 ρ1 w2 ρ2):bN w ρ w2 ρ2:=by
 refine⟨fun k hk hl=> ?_,fun k hk=> ?_,Nat.le_trans a.size b.size,fun id h=>b.dead id (a.dead id h),fun id h=> ?_,fun id k h=> ?_,fun id k h=> ?_⟩
 ·have hl1: ¬bH ρ1 k:=by
   rintro⟨id,hid⟩
   rcases a.fresh id k hid with h|h
   ·exact hl h
   ·omega
  rw[b.keep k (by have:=a.size;omega) hl1,a.keep k hk hl]
 ·rw[b.shape k (by have:=a.size;omega),a.shape k hk]
 ·rcases a.nil id h with h|h
  ·exact b.nil id h
  ·exact .inr (b.dead id h)
 ·rcases a.at_ id k h with h|h
  ·exact b.at_ id k h
  ·exact .inr (b.dead id h)
 ·rcases b.fresh id k h with⟨j,hj⟩|h
  ·exact a.fresh j k hj
  ·exact .inr (Nat.le_trans a.size h)
theorem cell?_lt {w:World} {a:Addr} {v:Value} (h:w.cell? a=some v):a.block<w.heap.size:=by
 unfold World.cell? at h
 rcases Nat.lt_or_ge a.block w.heap.size with h'|h'
 ·exact h'
 ·simp[Array.getElem?_eq_none h']at h
theorem cell?_same {w w':World} {a:Addr} (h:w'.heap[a.block]? =w.heap[a.block]?):w'.cell? a=w.cell? a:=by
 unfold World.cell?;rw[h]
theorem shape?_lt {w:World} {b:Nat} {x:TypeId×Nat} (h:w.shape? b=some x):b<w.heap.size:=by
 unfold World.shape? at h
 rcases Nat.lt_or_ge b w.heap.size with h'|h'
 ·exact h'
 ·simp[Array.getElem?_eq_none h']at h
structure cB (ρ ρ':Rho):Prop where
 dead: ∀id,ρ id=.dead→ρ' id=.dead
 nil: ∀id,ρ id=.nil→ρ' id=.nil∨ρ' id=.dead
 at_: ∀id b,ρ id=.row b→ρ' id=.row b∨ρ' id=.dead
theorem cB.refl (ρ:Rho):cB ρ ρ:=⟨fun _ h=>h,fun _ h=> .inl h,fun _ _ h=> .inl h⟩
theorem cB.trans {a b c:Rho} (x:cB a b) (y:cB b c):cB a c:=by
 refine⟨fun id h=>y.dead id (x.dead id h),fun id h=> ?_,fun id k h=> ?_⟩
 ·rcases x.nil id h with h|h
  ·exact y.nil id h
  ·exact .inr (y.dead id h)
 ·rcases x.at_ id k h with h|h
  ·exact y.at_ id k h
  ·exact .inr (y.dead id h)
theorem cB.noIds (ρ:Rho):cB noIds ρ:=⟨fun _ h=>by simp[Am.noIds]at h,fun _ h=>by simp[Am.noIds]at h,fun _ _ h=>by simp[Am.noIds]at h⟩
theorem bN.ids {w w':World} {ρ ρ':Rho} (m:bN w ρ w' ρ'):cB ρ ρ':=⟨m.dead,m.nil,m.at_⟩
theorem cB.unborn {ρ ρ':Rho} (m:cB ρ ρ') {id:Nat} (h:ρ id≠ .unborn):ρ' id≠ .unborn:=by
 cases hr:ρ id with
 |unborn=>exact absurd hr h
 |dead=>rw[m.dead id hr];simp
 |nil=>rcases m.nil id hr with e|e<;>rw[e]<;>simp
 |row b=>rcases m.at_ id b hr with e|e<;>rw[e]<;>simp
structure eD (w:World) (L:Nat→Prop) (w':World) (L':Nat→Prop):Prop where
 keep: ∀b,b<w.heap.size→ ¬L b→w'.heap[b]? =w.heap[b]?
 shape: ∀b,b<w.heap.size→w'.shape? b=w.shape? b
 size:w.heap.size≤w'.heap.size
 fresh: ∀b,L' b→L b∨w.heap.size≤b
theorem eD.refl (w:World) (L:Nat→Prop):eD w L w L:=⟨fun _ _ _=>rfl,fun _ _=>rfl,Nat.le_refl _,fun _ h=> .inl h⟩
theorem eD.trans {w w1 w2:World} {L L1 L2:Nat→Prop} (a:eD w L w1 L1) (b:eD w1 L1 w2 L2):eD w L w2 L2:=by
 refine⟨fun k hk hl=> ?_,fun k hk=> ?_,Nat.le_trans a.size b.size,fun k h=> ?_⟩
 ·have hl1: ¬L1 k:=fun h=>by
   rcases a.fresh k h with h|h
   ·exact hl h
   ·omega
  rw[b.keep k (by have:=a.size;omega) hl1,a.keep k hk hl]
 ·rw[b.shape k (by have:=a.size;omega),a.shape k hk]
 ·rcases b.fresh k h with h|h
  ·exact a.fresh k h
  ·exact .inr (Nat.le_trans a.size h)
theorem bN.toB {w w':World} {ρ ρ':Rho} (m:bN w ρ w' ρ'):eD w (bH ρ) w' (bH ρ'):=⟨m.keep,m.shape,m.size,fun b ⟨id,h⟩=>m.fresh id b h⟩
theorem CR0.mono {w w':World} {L L':Nat→Prop} (m:eD w L w' L') {ρ:Rho} {c:aF} {v:Value} (h:CR0 w L ρ c v): ∀ {ρ':Rho},cB ρ ρ'→CR0 w' L' ρ' c v:=by
 induction h with
 |any v h=>exact fun _=> .any v h
 |int k n=>exact fun _=> .int k n
 |bool b=>exact fun _=> .bool b
 |str s=>exact fun _=> .str s
 |nilp=>exact fun _=> .nilp
 |nils=>exact fun _=> .nils
 |nilf=>exact fun _=> .nilf
 |ptrDead id i es j v hd h=>exact fun im=> .ptrDead id i es j v (im.dead id hd) h
 |ptr id i es j b hb=>
  intro ρ' im
  rcases im.at_ id b hb with h|h
  ·exact .ptr id i es j b h
  ·exact .ptrDead id i es j _ h rfl
 |slDead id o len es cap v hd h=>exact fun im=> .slDead id o len es cap v (im.dead id hd) h
 |sl id o len es cap b c ty n hb hs hn hl hc=>
  intro ρ' im
  rcases im.at_ id b hb with h|h
  ·exact .sl id o len es cap b c ty n h (by rw[m.shape b (shape?_lt hs)];exact hs) hn hl hc
  ·exact .slDead id o len es cap _ h rfl
 |slNone id o es cap a h1 hc=>exact fun im=> .slNone id o es cap a (im.unborn h1) hc
 |vptr c i es j b base u hl hc hu ih=>
  intro ρ' im
  have hk: ∀q,q<c.size→w'.heap[b]? =w.heap[b]? :=fun q hq=>m.keep b (cell?_lt (hc q hq)) (hl (by omega))
  refine .vptr c i es j b base u (fun h0 hL=> ?_) (fun q hq=>by rw[cell?_same (hk q hq)];exact hc q hq) (fun q hq=>ih q hq (.refl _))
  rcases m.fresh b hL with h|h
  ·exact hl h0 h
  ·have:=cell?_lt (hc 0 h0);simp at this;omega
 |view nl c len es cap b base k u hl hc hu hz hk hcap hnl ih=>
  intro ρ' im
  have hkp: ∀q,q<c.size→w'.heap[b]? =w.heap[b]? :=fun q hq=>m.keep b (cell?_lt (hc q hq)) (hl (by omega))
  refine .view nl c len es cap b base k u (fun h0 hL=> ?_) (fun q hq=>by rw[cell?_same (hkp q hq)];exact hc q hq) (fun q hq=>ih q hq (.refl _)) hz hk hcap hnl
  rcases m.fresh b hL with h|h
  ·exact hl h0 h
  ·have:=cell?_lt (hc 0 h0);simp at this;omega
 |viewNone nl c es cap a k hz hcap hnl hk=>exact fun _=> .viewNone nl c es cap a k hz hcap hnl hk
 |fn f caps vs hs h ih=>exact fun im=> .fn f caps vs hs fun i hi=>ih i hi im
theorem eD.or {w w':World} {L L':Nat→Prop} (m:eD w L w' L') (X:Nat→Prop):eD w (fun b=>L b∨X b) w' (fun b=>L' b∨X b):=
 ⟨fun b hb hl=>m.keep b hb fun h=>hl (.inl h),m.shape,m.size,fun b h=>h.elim (fun h=>(m.fresh b h).elim (fun h=> .inl (.inl h)) .inr) fun h=> .inl (.inr h)⟩
theorem CR.mono {w w':World} {ρ ρ':Rho} (m:bN w ρ w' ρ') {c:aF} {v:Value} (h:CR X w ρ c v):CR X w' ρ' c v:=CR0.mono (m.toB.or X) h m.ids
theorem CR0.lift {w:World} {L:Nat→Prop} {c:aF} {v:Value} (h:CR0 w L noIds c v) {ρ:Rho}:CR0 w L ρ c v:=CR0.mono (eD.refl w L) h (cB.noIds ρ)
theorem CR0.free {w:World} {L:Nat→Prop} {ρ:Rho} {c:aF} {v:Value} (h:CR0 w L ρ c v) (hc:c.ids=[]):CR0 w L noIds c v:=by
 induction h with
 |any v h=>exact .any v h
 |int k n=>exact .int k n
 |bool b=>exact .bool b
 |str s=>exact .str s
 |nilp=>exact .nilp
 |nils=>exact .nils
 |nilf=>exact .nilf
 |ptrDead id i es j v hd h=>simp[aF.ids]at hc
 |ptr id i es j b hb=>simp[aF.ids]at hc
 |slDead id o len es cap v hd h=>simp[aF.ids]at hc
 |sl id o len es cap b c ty n hb hs hn hl hc'=>simp[aF.ids]at hc
 |slNone id o es cap a h1 hc'=>simp[aF.ids]at hc
 |vptr c i es j b base u hl hc' hu ih=>exact .vptr c i es j b base u hl hc' hu
 |view nl c len es cap b base k u hl hc' hu hz hk hcap hnl ih=>exact .view nl c len es cap b base k u hl hc' hu hz hk hcap hnl
 |viewNone nl c es cap a k hz hcap hnl hk=>exact .viewNone nl c es cap a k hz hcap hnl hk
 |fn f caps vs hs h ih=>
  simp only[aF.ids]at hc
  refine .fn f caps vs hs fun i hi=>ih i hi ?_
  have key: ∀(l:List aF),xK l=[]→ ∀i,i<l.length→(l.getD i .any).ids=[]:=by
   intro l
   induction l with
   |nil=>intro _ i hi;simp at hi
   |cons x l ih=>
    intro hl i hi
    simp only[xK,List.append_eq_nil_iff]at hl
    cases i with
    |zero=>simpa using hl.1
    |succ i=>simpa using ih hl.2 i (by simpa using hi)
  exact key caps hc i hi
theorem AVR.mono {w w':World} {ρ ρ':Rho} (m:bN w ρ w' ρ') {x:AV} {v:Value} (h:AVR X w ρ x v):AVR X w' ρ' x v:=by
 induction h with
 |any v=>exact .any v
 |c x v h=>exact .c x v (h.mono m)
 |agg cs vs hs h=>exact .agg cs vs hs fun i hi=>(h i hi).mono m
 |tup l vs hs h ih=>exact .tup l vs hs ih
def K9 (X:Nat→Prop) (w:World) (ρ:Rho) (c:Con) (b:Nat):Prop:=
 ∃(cs:Array Value) (ty:TypeId),w.heap[b]? =some (.cells cs ty (0,0))∧c.size≤cs.size∧ ∀q,q<c.size→CR X w ρ (c.cell q) (cs.getD q undef)
def dT (X:Nat→Prop) (w:World) (ρ:Rho):aW→Wh→Prop
 |.unborn,.unborn=>True
 |.dead,.dead=>True
 |.live c,.nil=>c.size=0
 |.live c,.row b=>K9 X w ρ c b
 |_,_=>False
structure Mem (X:Nat→Prop) (w0:World) (M:Nat→Prop) (h:List aW) (ρ:Rho) (w:World):Prop where
 slot: ∀id,dT X w ρ (Heap.get h id) (ρ id)
 inj: ∀i j b,ρ i=.row b→ρ j=.row b→i=j
 own: ∀id b,ρ id=.row b→w0.heap.size≤b∨M b
 os:w.os=w0.os
 tape:w.tape=w0.tape
 output:w.output=w0.output
 size:w0.heap.size≤w.heap.size
 keep: ∀k,k<w0.heap.size→ ¬M k→w.heap[k]? =w0.heap[k]?
 foreign: ∀b,X b→b<w0.heap.size∧ ¬M b
theorem Mem.notX {w0 w:World} {M:Nat→Prop} {h:List aW} {ρ:Rho} (m:Mem X w0 M h ρ w) {id b:Nat} (hb:ρ id=.row b): ¬X b:=fun hx=>by
 obtain⟨h1,h2⟩:=m.foreign b hx
 rcases m.own id b hb with h|h
 ·omega
 ·exact h2 h
def upd (ρ:Rho) (id:Nat) (x:Wh):Rho:=fun j=>if j=id then x else ρ j
theorem b8 (ρ:Rho) (id:Nat) (x:Wh):upd ρ id x id=x:=by simp[upd]
theorem bG (ρ:Rho) {id j:Nat} (x:Wh) (h:j≠id):upd ρ id x j=ρ j:=by simp[upd,h]
theorem Heap.get_set (h:List aW) (i j:Nat) (s:aW):Heap.get (h.set i s) j=if j=i∧i<h.length then s else Heap.get h j:=by
 unfold Heap.get
 rw[List.getD_eq_getElem?_getD,List.getD_eq_getElem?_getD,List.getElem?_set]
 by_cases e:i=j
 ·subst e
  by_cases hl:i<h.length
  ·simp[hl]
  ·simp[hl,List.getElem?_eq_none (Nat.le_of_not_lt hl)]
 ·have: ¬j=i:=fun e'=>e e'.symm
  simp[e,this]
theorem Heap.get_ge {h:List aW} {i:Nat} (hi:h.length≤i):Heap.get h i=.unborn:=by
 simp[Heap.get,List.getD_eq_getElem?_getD,List.getElem?_eq_none hi]
theorem Heap.lt_of_live {h:List aW} {i:Nat} (hi:Heap.get h i≠ .unborn):i<h.length:=by
 rcases Nat.lt_or_ge i h.length with h'|h'
 ·exact h'
 ·exact absurd (Heap.get_ge h') hi
theorem Mem.lt {w0 w:World} {M:Nat→Prop} {h:List aW} {ρ:Rho} (m:Mem X w0 M h ρ w) {id b:Nat} (hb:ρ id=.row b):b<w.heap.size:=by
 have hs:=m.slot id
 rw[hb]at hs
 cases hg:Heap.get h id with
 |live c=>
  rw[hg]at hs
  obtain⟨cs,ty,e,_⟩:=hs
  rcases Nat.lt_or_ge b w.heap.size with h'|h'
  ·exact h'
  ·simp[Array.getElem?_eq_none h']at e
 |unborn=>rw[hg]at hs;exact hs.elim
 |dead=>rw[hg]at hs;exact hs.elim
theorem dT.mono {w w':World} {ρ ρ':Rho} (m:bN w ρ w' ρ') {s:aW} {x:Wh} (h:dT X w ρ s x) (hb: ∀b,x=.row b→w'.heap[b]? =w.heap[b]?):dT X w' ρ' s x:=by
 cases s<;>cases x<;>try exact h
 rename_i c b
 obtain⟨cs,ty,e,h1,h2⟩:=h
 exact⟨cs,ty,by rw[hb b rfl];exact e,h1,fun q hq=>(h2 q hq).mono m⟩
theorem bN.draw (w:World) (ρ:Rho) (n:Nat):bN w ρ {w with drawn:=n} ρ:=
 ⟨fun _ _ _=>rfl,fun _ _=>rfl,Nat.le_refl _,fun _ h=>h,fun _ h=> .inl h,fun _ _ h=> .inl h,fun id _ h=> .inl ⟨id,h⟩⟩
theorem Mem.draw {w0 w:World} {M:Nat→Prop} {h:List aW} {ρ:Rho} (m:Mem X w0 M h ρ w) (n:Nat):Mem X w0 M h ρ {w with drawn:=n}:=
 ⟨fun id=>(m.slot id).mono (bN.draw w ρ n) fun _ _=>rfl,m.inj,m.own,m.os,m.tape,m.output,m.size,m.keep,m.foreign⟩
theorem Mem.reserve {w0 w:World} {M:Nat→Prop} {h:List aW} {ρ:Rho} (m:Mem X w0 M h ρ w) (n:Nat):Mem X w0 M (h++List.replicate n .unborn) ρ w:=by
 refine⟨fun id=> ?_,m.inj,m.own,m.os,m.tape,m.output,m.size,m.keep,m.foreign⟩
 have hs:=m.slot id
 have:Heap.get (h++List.replicate n .unborn) id=Heap.get h id:=by
  unfold Heap.get
  rw[List.getD_eq_getElem?_getD,List.getD_eq_getElem?_getD,List.getElem?_append]
  split
  ·rfl
  ·rename_i hlt
   rw[List.getElem?_eq_none (Nat.le_of_not_lt hlt),List.getElem?_replicate]
   split<;>rfl
 rw[this];exact hs
theorem Mem.kill {w0 w:World} {M:Nat→Prop} {h:List aW} {ρ:Rho} (m:Mem X w0 M h ρ w) {id:Nat} (hid:Heap.get h id≠ .unborn):
  bN w ρ w (upd ρ id .dead)∧Mem X w0 M (h.set id .dead) (upd ρ id .dead) w:=by
 have hlt:=Heap.lt_of_live hid
 have hne:ρ id≠ .unborn:=fun e=>by
  have hs:=m.slot id;rw[e]at hs
  cases hg:Heap.get h id<;>rw[hg]at hs<;>first|exact hid hg|exact hs.elim
 have hmono:bN w ρ w (upd ρ id .dead):=by
  refine⟨fun _ _ _=>rfl,fun _ _=>rfl,Nat.le_refl _,fun j hj=> ?_,fun j hj=> ?_,fun j b hj=> ?_,fun j b hj=> ?_⟩
  ·by_cases e:j=id
   ·subst e;exact b8 _ _ _
   ·rw[bG _ _ e];exact hj
  ·by_cases e:j=id
   ·subst e;exact .inr (b8 _ _ _)
   ·rw[bG _ _ e];exact .inl hj
  ·by_cases e:j=id
   ·subst e;exact .inr (b8 _ _ _)
   ·rw[bG _ _ e];exact .inl hj
  ·by_cases e:j=id
   ·subst e;rw[b8]at hj;cases hj
   ·rw[bG _ _ e]at hj;exact .inl ⟨j,hj⟩
 refine⟨hmono,⟨fun j=> ?_,fun i j b hi hj=> ?_,fun j b hj=> ?_,m.os,m.tape,m.output,m.size,m.keep,m.foreign⟩⟩
 ·rw[Heap.get_set]
  by_cases e:j=id
  ·subst e;rw[if_pos ⟨rfl,hlt⟩,b8];trivial
  ·rw[if_neg (fun x=>e x.1),bG _ _ e];exact(m.slot j).mono hmono fun _ _=>rfl
 ·by_cases e:i=id
  ·subst e;rw[b8]at hi;cases hi
  ·by_cases e':j=id
   ·subst e';rw[b8]at hj;cases hj
   ·rw[bG _ _ e]at hi;rw[bG _ _ e']at hj;exact m.inj i j b hi hj
 ·by_cases e:j=id
  ·subst e;rw[b8]at hj;cases hj
  ·rw[bG _ _ e]at hj;exact m.own j b hj
theorem Mem.alloc {w0 w:World} {M:Nat→Prop} {h:List aW} {ρ:Rho} (m:Mem X w0 M h ρ w) {id:Nat} (hid:Heap.get h id=.unborn) (hlt:id<h.length)
  (c:Con) (cs:Array Value) (ty:TypeId) (hsz:c.size≤cs.size) (hc: ∀q,q<c.size→CR X w ρ (c.cell q) (cs.getD q undef)):
  bN w ρ {w with heap:=w.heap.push (.cells cs ty (0,0))} (upd ρ id (.row w.heap.size))∧
  Mem X w0 M (h.set id (.live c)) (upd ρ id (.row w.heap.size)) {w with heap:=w.heap.push (.cells cs ty (0,0))}:=by
 have hrho:ρ id=.unborn:=by
  have hs:=m.slot id;rw[hid]at hs
  cases hr:ρ id<;>rw[hr]at hs<;>first|rfl|exact hs.elim
 have hold: ∀b,b<w.heap.size→(w.heap.push (.cells cs ty (0,0)))[b]? =w.heap[b]? :=fun b hb=>by
  rw[Array.getElem?_push,if_neg (by omega)]
 have hmono:bN w ρ {w with heap:=w.heap.push (.cells cs ty (0,0))} (upd ρ id (.row w.heap.size)):=by
  refine⟨fun b hb _=>hold b hb,fun b hb=> ?_,by simp,fun j hj=> ?_,fun j hj=> ?_,fun j b hj=> ?_,fun j b hj=> ?_⟩
  ·unfold World.shape?;rw[hold b hb]
  ·rw[bG _ _ (fun e=>by subst e;rw[hrho]at hj;cases hj)];exact hj
  ·rw[bG _ _ (fun e=>by subst e;rw[hrho]at hj;cases hj)];exact .inl hj
  ·rw[bG _ _ (fun e=>by subst e;rw[hrho]at hj;cases hj)];exact .inl hj
  ·by_cases e:j=id
   ·subst e;rw[b8]at hj;injection hj with hj;exact .inr (by omega)
   ·rw[bG _ _ e]at hj;exact .inl ⟨j,hj⟩
 refine⟨hmono,⟨fun j=> ?_,fun i j b hi hj=> ?_,fun j b hj=> ?_,m.os,m.tape,m.output,by have:=m.size;simp;omega,fun k hk hM=> ?_,m.foreign⟩⟩
 ·rw[Heap.get_set]
  by_cases e:j=id
  ·subst e;rw[if_pos ⟨rfl,hlt⟩,b8]
   exact⟨cs,ty,by simp,hsz,fun q hq=>(hc q hq).mono hmono⟩
  ·rw[if_neg (fun x=>e x.1),bG _ _ e]
   exact(m.slot j).mono hmono fun b hb=>hold b (m.lt hb)
 ·by_cases e:i=id
  ·subst e;rw[b8]at hi;injection hi with hi
   by_cases e':j=i
   ·exact e'.symm
   ·rw[bG _ _ e']at hj;have:=m.lt hj;omega
  ·by_cases e':j=id
   ·subst e';rw[b8]at hj;injection hj with hj;rw[bG _ _ e]at hi;have:=m.lt hi;omega
   ·rw[bG _ _ e]at hi;rw[bG _ _ e']at hj;exact m.inj i j b hi hj
 ·by_cases e:j=id
  ·subst e;rw[b8]at hj;injection hj with hj;have:=m.size;exact .inl (by omega)
  ·rw[bG _ _ e]at hj;exact m.own j b hj
 ·have:=m.size
  rw[←m.keep k hk hM];exact hold k (by omega)
theorem Mem.allocNil {w0 w:World} {M:Nat→Prop} {h:List aW} {ρ:Rho} (m:Mem X w0 M h ρ w) {id:Nat} (hid:Heap.get h id=.unborn) (hlt:id<h.length)
  (c:Con) (hsz:c.size=0):bN w ρ w (upd ρ id .nil)∧Mem X w0 M (h.set id (.live c)) (upd ρ id .nil) w:=by
 have hrho:ρ id=.unborn:=by
  have hs:=m.slot id;rw[hid]at hs
  cases hr:ρ id<;>rw[hr]at hs<;>first|rfl|exact hs.elim
 have hmono:bN w ρ w (upd ρ id .nil):=by
  refine⟨fun b hb _=>rfl,fun b hb=>rfl,Nat.le_refl _,fun j hj=> ?_,fun j hj=> ?_,fun j b hj=> ?_,fun j b hj=> ?_⟩
  ·rw[bG _ _ (fun e=>by subst e;rw[hrho]at hj;cases hj)];exact hj
  ·rw[bG _ _ (fun e=>by subst e;rw[hrho]at hj;cases hj)];exact .inl hj
  ·rw[bG _ _ (fun e=>by subst e;rw[hrho]at hj;cases hj)];exact .inl hj
  ·by_cases e:j=id
   ·subst e;rw[b8]at hj;cases hj
   ·rw[bG _ _ e]at hj;exact .inl ⟨j,hj⟩
 refine⟨hmono,⟨fun j=> ?_,fun i j b hi hj=> ?_,fun j b hj=> ?_,m.os,m.tape,m.output,m.size,m.keep,m.foreign⟩⟩
 ·rw[Heap.get_set]
  by_cases e:j=id
  ·subst e;rw[if_pos ⟨rfl,hlt⟩,b8];exact hsz
  ·rw[if_neg (fun x=>e x.1),bG _ _ e]
   exact(m.slot j).mono hmono fun b hb=>rfl
 ·by_cases e:i=id
  ·subst e;rw[b8]at hi;cases hi
  ·by_cases e':j=id
   ·subst e';rw[b8]at hj;cases hj
   ·rw[bG _ _ e]at hi;rw[bG _ _ e']at hj;exact m.inj i j b hi hj
 ·by_cases e:j=id
  ·subst e;rw[b8]at hj;cases hj
  ·rw[bG _ _ e]at hj;exact m.own j b hj
theorem Mem.write {w0 w:World} {M:Nat→Prop} {h:List aW} {ρ:Rho} (m:Mem X w0 M h ρ w) {id b:Nat} (hb:ρ id=.row b)
  (c':Con) (cs cs':Array Value) (ty:TypeId) (hrow:w.heap[b]? =some (.cells cs ty (0,0))) (hcs:cs'.size=cs.size)
  (hsz:c'.size≤cs'.size) (hc: ∀q,q<c'.size→CR X w ρ (c'.cell q) (cs'.getD q undef)):
  bN w ρ (w.setRow b cs') ρ∧Mem X w0 M (h.set id (.live c')) ρ (w.setRow b cs'):=by
 have hnew:=setRow_heap w b cs cs' ty (0,0) hrow
 have hsh: ∀k,(w.setRow b cs').shape? k=w.shape? k:=fun k=>by
  unfold World.shape?
  by_cases e:k=b
  ·subst e;rw[hnew,hrow];simp[hcs]
  ·rw[setRow_other w b k cs' e]
 have hmono:bN w ρ (w.setRow b cs') ρ:=
  ⟨fun k hk hl=>setRow_other w b k cs' (fun e=>hl (by subst e;exact⟨id,hb⟩)),fun k _=>hsh k,by simp,fun _ h=>h,fun _ h=> .inl h,fun _ _ h=> .inl h,fun j _ h=> .inl ⟨j,h⟩⟩
 have hidl:id<h.length:=Heap.lt_of_live (fun e=>by have hs:=m.slot id;rw[e,hb]at hs;exact hs)
 refine⟨hmono,⟨fun j=> ?_,m.inj,m.own,m.os,m.tape,m.output,by have:=m.size;simpa using this,fun k hk hM=> ?_,m.foreign⟩⟩
 ·rw[Heap.get_set]
  by_cases e:j=id
  ·subst e;rw[if_pos ⟨rfl,hidl⟩,hb]
   exact⟨cs',ty,hnew,hsz,fun q hq=>(hc q hq).mono hmono⟩
  ·rw[if_neg (fun x=>e x.1)]
   exact(m.slot j).mono hmono fun k hk=>setRow_other w b k cs' (fun e'=>e (m.inj j id b (by rw[hk,e']) hb))
 ·rw[←m.keep k hk hM]
  refine setRow_other w b k cs' (fun e=> ?_)
  subst e
  rcases m.own id k hb with h'|h'
  ·omega
  ·exact hM h'
end
section
variable {X : Nat → Prop}
def zcB:Value→aF→Bool
 |.int k n,.int k' n'=>decide (k=k')&&decide (n=n')
 |.bool b,.bool b'=>b==b'
 |.string s,.str s'=>s.data.toList==s'.data.toList
 |.pointer none,.nilp=>true
 |.slice none 0 0,.nils=>true
 |.nilFunc,.nilf=>true
 |v,.any=>v.oneCell'
 |_,_=>false
theorem FJ {w:World} {ρ:Rho} {v:Value} {c:aF} (h:zcB v c=true):CR X w ρ c v:=by
 unfold zcB at h
 split at h
 ·simp at h;obtain⟨rfl,rfl⟩:=h;exact .int _ _
 ·simp at h;subst h;exact .bool _
 ·rename_i s s'
  have e:s=s':=by
   have:=eq_of_beq h
   cases s;cases s';simp at this;simp[this]
  subst e;exact .str _
 ·exact .nilp
 ·exact .nils
 ·exact .nilf
 ·exact .any _ h
 ·cases h
def zsB:List Value→List aF→Bool
 |[],[]=>true
 |v::r,c::s=>zcB v c&&zsB r s
 |_,_=>false
theorem pP {w:World} {ρ:Rho}: ∀ {l:List Value} {s:List aF},zsB l s=true→l.length=s.length∧ ∀i,i<s.length→CR X w ρ (s.getD i .any) (l.getD i undef)
 |[],[],_=>⟨rfl,fun i hi=>absurd hi (by simp)⟩
 |v::r,c::s,h=>by
  simp only[zsB,Bool.and_eq_true,rpS]at h
  obtain⟨h1,h2⟩:=pP (w:=w) (ρ:=ρ) h.2
  refine⟨by simp[h1],fun i hi=> ?_⟩
  cases i with
  |zero=>simpa using FJ h.1
  |succ i=>simpa using h2 i (by simpa using hi)
 |[],_::_,h=>by simp[zsB]at h
 |_::_,[],h=>by simp[zsB]at h
def HU:Value→Bool
 |.agg _=>true
 |_=>false
def fU (P:Program):TypeDesc→TD→Bool→Bool
 |.int k,.int k',a=>decide (k=k')&& !a
 |.bool,.bool,a=> !a
 |.string,.str,a=> !a
 |.slice e,.slice e',a=>decide (e=e')&& !a
 |.array n e,.arr n' e',a=>decide (n=n')&&decide (e=e')&&a
 |.struct fs,.struct l,a=>decide (fs.toList.map (fun f=>(f.offset,f.type))=l)&&a&&fs.toList.all fun f=>decide (((P.info? f.type).map (·.size)).getD 0≠0)
 |.pointer e,.ptr e',a=>decide (e=e')&& !a
 |.struct _,.other,a=>a
 |.array ..,.other,a=>a
 |_,.other,a=> !a
 |_,_,_=>false
def tiB (P:Program) (t:Nat) (ti:TI):Bool:=
 match P.info? t,P.underlying t with
 |some i,some d=>
  match i.zero with
  |some z=>decide (i.size=ti.size)&&decide (i.bytes=ti.bytes)&&zsB z.cells.toList ti.zero&&decide (ti.zero.length=ti.size)&&(HU z==ti.agg)&&fU P d ti.desc ti.agg
  |none=>false
 |_,_=>false
structure iE (P:Program) (t:Nat) (ti:TI) (i:TypeInfo) (z:Value) (d:TypeDesc):Prop where
 info:P.info? t=some i
 und:P.underlying t=some d
 zero:i.zero=some z
 size:i.size=ti.size
 bytes:i.bytes=ti.bytes
 zs:zsB z.cells.toList ti.zero=true
 zl:ti.zero.length=ti.size
 zagg:HU z=ti.agg
 desc:fU P d ti.desc ti.agg=true
theorem FE {P:Program} {t:Nat} {ti:TI} (h:tiB P t ti=true): ∃i z d,iE P t ti i z d:=by
 unfold tiB at h
 split at h
 ·rename_i i d h1 h2
  split at h
  ·rename_i z hz
   simp only[Bool.and_eq_true,rpS,decide_eq_true_eq,beq_iff_eq]at h
   obtain⟨⟨⟨⟨⟨a,b⟩,c⟩,d'⟩,e⟩,f⟩:=h
   exact⟨i,z,d,⟨h1,h2,hz,a,b,c,d',e,f⟩⟩
  ·cases h
 ·cases h
def ttB (P:Program):Tab→Nat→Bool
 |[],_=>true
 |none::r,t=>ttB P r (t+1)
 |some ti::r,t=>tiB P t ti&&ttB P r (t+1)
def iV (P:Program) (tt:Tab):Prop:= ∀t ti,tt.ti t=some ti→ ∃i z d,iE P t ti i z d
theorem pM {P:Program}: ∀ {tt:Tab} {k:Nat},ttB P tt k=true→ ∀t ti,tt.ti t=some ti→ ∃i z d,iE P (k+t) ti i z d
 |[],k,_,t,ti,h=>by simp[Tab.ti]at h
 |none::r,k,hb,t,ti,h=>by
  cases t with
  |zero=>simp[Tab.ti]at h
  |succ t=>
   have:=pM (k:=k+1) hb t ti (by simpa [Tab.ti]using h)
   rwa[show k+1+t=k+(t+1)from by omega]at this
 |some x::r,k,hb,t,ti,h=>by
  simp only[ttB,Bool.and_eq_true,rpS]at hb
  cases t with
  |zero=>
   have:x=ti:=by simpa [Tab.ti]using h
   subst this;exact FE hb.1
  |succ t=>
   have:=pM (k:=k+1) hb.2 t ti (by simpa [Tab.ti]using h)
   rwa[show k+1+t=k+(t+1)from by omega]at this
theorem NP {P:Program} {tt:Tab} (h:ttB P tt 0=true):iV P tt:=fun t ti e=>by
 simpa using pM h t ti e
theorem AVR.cells {w:World} {ρ:Rho} {x:AV} {v:Value} {l:List aF} (h:AVR X w ρ x v) (hx:cellsOf x=some l):
  v.cells.size=l.length∧(∀i,i<l.length→CR X w ρ (l.getD i .any) (v.cells.getD i undef))∧ ∀u∈v.cells.toList,u.oneCell'=true:=by
 have all: ∀(l:List aF) (vs:Array Value),vs.size=l.length→(∀i,i<l.length→CR X w ρ (l.getD i .any) (vs.getD i undef))→ ∀u∈vs.toList,u.oneCell'=true:=by
  intro l vs hs h u hu
  obtain⟨i,hi,rfl⟩:=List.getElem_of_mem hu
  have hi':i<vs.size:=by simpa using hi
  have:=(h i (by omega)).one
  simpa [Array.getD,hi']using this
 cases h with
 |any v=>simp[cellsOf]at hx
 |c x v h=>
  simp[cellsOf]at hx;subst hx
  have e:v.cells= #[v]:=by cases h<;>first|rfl|(rename_i h1;cases v<;>first|rfl|(simp[Value.oneCell']at h1))
  rw[e]
  refine⟨rfl,fun i hi=> ?_,fun u hu=>by simp at hu;subst hu;exact h.one⟩
  obtain rfl:i=0:=by simpa using hi
  simpa using h
 |agg cs vs hs h=>
  simp[cellsOf]at hx;subst hx
  exact⟨hs,h,all _ _ hs h⟩
 |tup l vs hs h=>simp[cellsOf]at hx
theorem iA (f:Nat→aF): ∀m q,(mD f m q).length=m
 |0,_=>rfl
 |m+1,q=>by simp[mD,iA f m]
theorem qA (f:Nat→aF): ∀m q i,i<m→(mD f m q).getD i .any=f (q+i)
 |0,_,i,h=>absurd h (by omega)
 |m+1,q,0,_=>by simp[mD]
 |m+1,q,i+1,h=>by
  have:=qA f m (q+1) i (by omega)
  simp only[mD,List.getD_cons_succ,this]
  congr 1;omega
theorem xL {i es j m n q:Nat} (h:inB i es j m n=true) (hq:q<m):i*es+(j+q)<n:=by
 unfold inB at h
 split at h
 ·simp[dE]at h;omega
 ·simp[dE]at h;omega
theorem sN {c:Con} {i es j m:Nat} (h:c.has i es j m=true) {q:Nat} (hq:q<m):i*es+(j+q)<c.size∧c.get i es (j+q)=c.cell (i*es+(j+q)):=by
 cases c with
 |recs e n f=>
  simp only[Con.has,Bool.and_eq_true,rpS,decide_eq_true_eq,beq_iff_eq]at h
  obtain⟨⟨he,hi⟩,hj⟩:=h
  subst he
  have h1:j+q<e:=by omega
  refine⟨?_, ?_⟩
  ·simp only[Con.size]
   have h2:(i+1)*e≤n*e:=Nat.mul_le_mul_right _ hi
   rw[Nat.add_mul,Nat.one_mul]at h2;omega
  ·simp only[Con.get,Con.cell,beq_self_eq_true,cond_true]
   have d:(i*e+(j+q))/e=i:=by
    rw[Nat.add_comm,Nat.add_mul_div_right _ _ (by omega),Nat.div_eq_of_lt h1];omega
   have m:(i*e+(j+q))%e=j+q:=by
    rw[Nat.add_comm,Nat.add_mul_mod_self_right,Nat.mod_eq_of_lt h1]
   rw[d,m]
 |ints k xs=>exact⟨xL h hq,by simp only[Con.get,dE]⟩
 |bools bs=>exact⟨xL h hq,by simp only[Con.get,dE]⟩
 |ivs k xss=>exact⟨xL h hq,by simp only[Con.get,dE]⟩
 |cells cs=>exact⟨xL h hq,by simp only[Con.get,dE]⟩
theorem gG {α:Type} (l:List α) (p q:Nat) (x d:α) (hp:p<l.length):(l.set p x).getD q d=if q=p then x else l.getD q d:=by
 rw[List.getD_eq_getElem?_getD,List.getD_eq_getElem?_getD,List.getElem?_set]
 by_cases e:p=q
 ·subst e;simp[hp]
 ·have: ¬q=p:=fun e'=>e e'.symm
  simp[e,this]
theorem AH {w:World} {ρ:Rho} {nl:Option Bool} {k:IntKind} {xs:List Int} {len:Nat} {cap:Option Nat} {v:Value}
  (h:CR X w ρ (.view nl (.ints k xs) len 1 cap) v):CR X w ρ (.view none (.ints k xs) xs.length 1 none) v:=by
 cases h with
 |view _ _ _ _ _ b base kk u hl hc hu hz hk hcap hnl=>
  simp[Con.size]at hz;subst hz
  exact .view none _ _ 1 none b base kk u hl hc hu (by simp[Con.size]) hk (fun _ h=>by cases h) (fun _ h=>by cases h)
 |viewNone _ _ _ _ a k' hz hcap hnl hk=>
  have:xs=[]:=by simpa [Con.size]using hz
  subst this
  exact .viewNone none _ 1 none a k' rfl (fun _ h=>by cases h) (fun _ h=>by cases h) hk
theorem JD {w:World} {ρ:Rho} {c c':Con} {i es j:Nat} {x:aF} {v:Value} (h:c.put i es j x=some c') (hx:CR X w ρ x v) (hp:i*es+j<c.size):
  c'.size=c.size∧(∀q,q≠i*es+j→c'.cell q=c.cell q)∧CR X w ρ (c'.cell (i*es+j)) v:=by
 unfold Con.put at h
 split at h
 ·split at h
  ·rename_i k xs k' n hk
   injection h with h;subst h;subst hk
   refine⟨by simp[Con.size],fun q hq=> ?_, ?_⟩
   ·simp only[Con.cell,dE];rw[gG _ _ _ _ _ hp,if_neg hq]
   ·simp only[Con.cell,dE];rw[gG _ _ _ _ _ hp,if_pos rfl];exact hx
  ·cases h
 ·injection h with h;subst h
  refine⟨by simp[Con.size],fun q hq=> ?_, ?_⟩
  ·simp only[Con.cell,dE];rw[gG _ _ _ _ _ hp,if_neg hq]
  ·simp only[Con.cell,dE];rw[gG _ _ _ _ _ hp,if_pos rfl];exact hx
 ·split at h
  ·rename_i k xss nl k' xs len cap hk
   injection h with h;subst h;subst hk
   refine⟨by simp[Con.size],fun q hq=> ?_, ?_⟩
   ·simp only[Con.cell,dE];rw[gG _ _ _ _ _ hp,if_neg hq]
   ·simp only[Con.cell,dE];rw[gG _ _ _ _ _ hp,if_pos rfl];exact AH hx
  ·cases h
 ·injection h with h;subst h
  refine⟨by simp[Con.size],fun q hq=> ?_, ?_⟩
  ·simp only[Con.cell,dE];rw[gG _ _ _ _ _ hp,if_neg hq]
  ·simp only[Con.cell,dE];rw[gG _ _ _ _ _ hp,if_pos rfl];exact hx
 ·cases h
theorem tA {w:World} {ρ:Rho} {i es:Nat}: ∀ {l:List aF} {c c':Con} {j:Nat} {cs:Array Value} {vs:List Value},c.puts i es j l=some c'→vs.length=l.length→
  (∀q,q<l.length→CR X w ρ (l.getD q .any) (vs.getD q undef))→i*es+j+l.length≤c.size→c.size≤cs.size→(∀q,q<c.size→CR X w ρ (c.cell q) (cs.getD q undef))→
  c'.size=c.size∧ ∀q,q<c.size→CR X w ρ (c'.cell q) ((cs.toList.take (i*es+j)++vs++cs.toList.drop (i*es+j+vs.length)).toArray.getD q undef)
 |[],c,c',j,cs,vs,h,hv,hx,hp,hs,hc=>by
  simp[Con.puts]at h;subst h
  have:vs=[]:=by simpa using hv
  subst this
  refine⟨rfl,fun q hq=> ?_⟩
  simpa using hc q hq
 |x::l,c,c',j,cs,vs,h,hv,hx,hp,hs,hc=>by
  cases vs with
  |nil=>simp at hv
  |cons v vs=>
   simp only[Con.puts]at h
   obtain⟨c1,h1,h2⟩:=Option.bind_eq_some_iff.1 h
   simp only[List.length_cons]at hp
   obtain⟨e1,e2,e3⟩:=JD h1 (by simpa using hx 0 (by simp)) (by omega)
   have hlt:i*es+j<cs.size:=by omega
   have:=tA (w:=w) (ρ:=ρ) (cs:=cs.setIfInBounds (i*es+j) v) (vs:=vs) h2 (by simpa using hv)
    (fun q hq=>by have:=hx (q+1) (by simpa using hq);simpa using this) (by rw[e1];omega) (by rw[e1];simpa using hs) (fun q hq=>by
     rw[e1]at hq
     by_cases e:q=i*es+j
     ·subst e;simpa [Array.getD,hlt]using e3
     ·rw[e2 q e]
      have:=hc q hq
      rw[Array.getD_eq_getD_getElem?]at this⊢
      rw[Array.getElem?_setIfInBounds_ne (fun e'=>e e'.symm)]
      exact this)
   refine⟨this.1.trans e1,fun q hq=> ?_⟩
   have h3:=this.2 q (by rw[e1];exact hq)
   have e:=list_seg_step cs.toList (i*es+j) v vs (by simp at hv⊢;omega)
   simp only[Array.toList_setIfInBounds]at h3
   rw[show i*es+(j+1)=i*es+j+1 from by omega]at h3
   rw[e]at h3
   simpa [Nat.add_assoc,Nat.add_comm 1]using h3
end
section
variable {X : Nat → Prop}
def Res (X:Nat→Prop) (P:Program) (w0:World) (M:Nat→Prop) (h:List aW) (ρ:Rho) (w:World) (eff:Eff) (s:Sem Value):Prop:=
 ∃v w' ρ',s.run P w=.ok v w'∧bN w ρ w' ρ'∧Mem X w0 M (cV h eff.sets) ρ' w'∧AVR X w' ρ' eff.val v
section
variable {P : Program} {tt : Tab} (hT : iV P tt) {w0 w : World} {M : Nat → Prop} {h : List aW} {ρ : Rho} (m : Mem X w0 M h ρ w)
include m
theorem tE {x:AV} {o:List Bool} {v:Value} {e:Eff} (he:val x o=some e) (hx:AVR X w ρ x v):Res X P w0 M h ρ w e (pure v):=by
 injection he with he;subst he
 exact⟨v,w,ρ,rfl,bN.refl _ _,m,hx⟩
theorem gU {id i es j:Nat} {c:Con} {v:Value} (hs:Heap.get h id=.live c) (hx:CR X w ρ (.ptr id i es j) v):
  ∃b,ρ id=.row b∧v=.pointer (some ⟨b,i*es+j,none⟩)∧K9 X w ρ c b:=by
 have hm:=m.slot id
 rw[hs]at hm
 cases hx with
 |ptrDead _ _ _ _ v hd ho=>rw[hd]at hm;exact hm.elim
 |ptr _ _ _ _ b hb=>rw[hb]at hm;exact⟨b,hb,rfl,hm⟩
theorem cW {id o len es:Nat} {cap:Option Nat} {c:Con} {v:Value} (hs:Heap.get h id=.live c) (hx:CR X w ρ (.sl id o len es cap) v):
  (∃b k ty n,ρ id=.row b∧v=.slice (some ⟨b,o*es,none⟩) len k∧K9 X w ρ c b∧w.shape? b=some (ty,n)∧(o+k)*es≤n∧len≤k∧mR cap k)∨
  (∃a,v=.slice a 0 0∧len=0∧mR cap 0):=by
 have hm:=m.slot id
 rw[hs]at hm
 cases hx with
 |slDead _ _ _ _ _ v hd ho=>rw[hd]at hm;exact hm.elim
 |sl _ _ _ _ _ b k ty n hb hsh hn hl hc=>rw[hb]at hm;exact .inl ⟨b,k,ty,n,hb,rfl,hm,hsh,hn,hl,hc⟩
 |slNone _ _ _ _ a h1 hc=>exact .inr ⟨a,rfl,rfl,hc⟩
omit m in
include hT in
theorem bR {t:Nat} {ti:TI} (ht:tt.ti t=some ti): ∃i z d,iE P t ti i z d:=hT t ti ht
omit m in
theorem l9 {t:Nat} {ti:TI} {i:TypeInfo} {z:Value} {d:TypeDesc} (k:iE P t ti i z d) (w:World):(isAgg t).run P w=.ok ti.agg w:=by
 have hd:=k.desc
 simp only[isAgg,Sem.run_bind,run_underlying k.und,Result.andThen_ok]
 generalize ti.agg=g at hd
 generalize ti.desc=e at hd
 cases d<;>cases e<;>cases g<;>first|rfl|(simp[fU]at hd;done)|(simp[fU]at hd)
omit m in
theorem bW {t:Nat} {ti:TI} {i:TypeInfo} {z:Value} {d:TypeDesc} (k:iE P t ti i z d) (w:World):(sizeOf t).run P w=.ok ti.size w:=by
 simp[sizeOf,typeInfo,k.info,k.size]
omit m in
theorem lQ {t:Nat} {ti:TI} {i:TypeInfo} {z:Value} {d:TypeDesc} (k:iE P t ti i z d) (w:World):(typeInfo t).run P w=.ok i w:=by
 simp[typeInfo,k.info]
omit m in
theorem hE {t:Nat} {ti:TI} {i:TypeInfo} {z:Value} {d:TypeDesc} (k:iE P t ti i z d) (w:World):(zeroValue t).run P w=.ok z w:=by
 simp[zeroValue,typeInfo,k.info,k.zero]
omit m in
theorem dU (b o n:Nat):(⟨b,o,none⟩:Addr).add n=⟨b,o+n,none⟩:=by
 unfold Addr.add;split
 ·rename_i h;subst h;rfl
 ·rfl
omit m in
theorem CH (f:Nat→Value) (n q:Nat) (hq:q<n):(((List.range n).map f).toArray).getD q undef=f q:=by
 rw[Array.getD_eq_getD_getElem?];simp[hq]
include hT in
theorem sT {get:Get} (hg: ∀id c,get id=.live c→Heap.get h id=.live c) {t:Nat} {x:AV} {v:Value} (hx:AVR X w ρ x v) {e:Eff}
  (he:yN tt get t x=some e) (ho: ∀b∈e.obl,b=true): ∃r,(Instr.loadAt t v).run P w=.ok r w∧AVR X w ρ e.val r∧e.sets=[]∧ ∃ad,v=.pointer (some ad):=by
 have core: ∀(ti:TI) (i:TypeInfo) (z:Value) (d:TypeDesc) (k:iE P t ti i z d) (c:Con) (ii es j b base:Nat) (u:Nat→Value),
   (∀q,q<c.size→w.cell? ⟨b,base+q,none⟩=some (u q))→(∀q,q<c.size→CR X w ρ (c.cell q) (u q))→ ∀e:Eff,
   nH ti c ii es j=some e→(∀b∈e.obl,b=true)→
   ∃r,(Instr.loadAt t (.pointer (some ⟨b,base+(ii*es+j),none⟩))).run P w=.ok r w∧AVR X w ρ e.val r∧e.sets=[]∧ ∃ad,(.pointer (some ⟨b,base+(ii*es+j),none⟩):Value)=.pointer (some ad):=by
  intro ti i z d k c ii es j b base u hc hu e he ho
  unfold nH at he
  cases hag:ti.agg with
  |true=>
   rw[hag]at he
   injection he with he;subst he
   have hh:c.has ii es j ti.size=true:=ho _ (by simp)
   have hl:=run_loadCells (P:=P) w ⟨b,base+(ii*es+j),none⟩ ti.size (fun q=>u (ii*es+(j+q))) (fun q hq=>by
    rw[dU];have:=hc _ (sN hh hq).1;simpa [Nat.add_assoc]using this)
   refine⟨.agg ((List.range ti.size).map (fun q=>u (ii*es+(j+q)))).toArray, ?_, ?_,rfl,_,rfl⟩
   ·simp[Instr.loadAt,Instr.sureAddr,loadVar,l9 k,hag,bW k,hl]
   ·refine .agg _ _ (by simp[iA]) fun q hq=> ?_
    rw[iA]at hq
    rw[qA _ _ _ _ hq,CH _ _ _ hq]
    obtain⟨h1,h2⟩:=sN hh hq
    rw[h2];exact hu _ h1
  |false=>
   rw[hag]at he
   injection he with he;subst he
   have hh:c.has ii es j 1=true:=ho _ (by simp)
   obtain⟨h1,h2⟩:=sN hh (q:=0) (by omega)
   have hcell:=hc _ h1
   refine⟨u (ii*es+(j+0)), ?_, ?_,rfl,_,rfl⟩
   ·simp only[Nat.add_zero]at hcell
    simp[Instr.loadAt,Instr.sureAddr,loadVar,l9 k,hag,hcell]
   ·have:=hu _ h1
    rw[←h2]at this
    exact .c _ _ this
 unfold yN at he
 replace he:=Option.bind_eq_some_iff.1 he
 obtain⟨ti,hti,he⟩:=he
 obtain⟨i,z,d,k⟩:=bR hT hti
 split at he
 ·rename_i id ii es j
  split at he
  ·rename_i c hs
   cases hx with
   |c _ _ hx=>
    obtain⟨b,hb,rfl,cs,ty,hrow,hsz,hcs⟩:=gU m (hg _ _ hs) hx
    have:=core ti i z d k c ii es j b 0 (fun q=>cs.getD q undef) (fun q hq=>by
     have hq':q<cs.size:=by omega
     simp[World.cell?,hrow,Array.getD,hq']) hcs e he ho
    simpa using this
  ·cases he
 ·rename_i c ii es j
  cases hx with
  |c _ _ hx=>
   cases hx with
   |vptr _ _ _ _ b base u hl hc hu=>exact core ti i z d k c ii es j b base u hc (fun q hq=>(hu q hq).lift) e he ho
 ·cases he
include hT in
theorem JK {get:Get} (hg: ∀id c,get id=.live c→Heap.get h id=.live c) {t:Nat} {x:AV} {v:Value} (hx:AVR X w ρ x v) {e:Eff}
  (he:yN tt get t x=some e) (ho: ∀b∈e.obl,b=true):Res X P w0 M h ρ w e (Instr.loadAt t v):=by
 obtain⟨r,h1,h2,h3,_⟩:=sT hT m hg hx he ho
 exact⟨r,w,ρ,h1,bN.refl _ _,by rw[h3];exact m,h2⟩
omit m in
theorem hU (h:List aW) (a b:List (Nat×aW)):cV h (a++b)=cV (cV h a) b:=by
 induction a generalizing h with
 |nil=>rfl
 |cons x a ih=>obtain⟨i,s⟩:=x;simpa [cV]using ih (h.set i s)
end
structure d5 (X:Nat→Prop) (w0:World) (M:Nat→Prop) (h:List aW) (ρ:Rho) (w:World) (sets:List (Nat×aW)) (ρ':Rho):Prop where
 mono:bN w ρ w ρ'
 mem:Mem X w0 M (cV h sets) ρ' w
 other: ∀id,(∀s,(id,s)∉sets)→ρ' id=ρ id
theorem d5.nil {w0 w:World} {M:Nat→Prop} {h:List aW} {ρ:Rho} (m:Mem X w0 M h ρ w):d5 X w0 M h ρ w [] ρ:=⟨bN.refl _ _,m,fun _ _=>rfl⟩
theorem dL: ∀(sets:List (Nat×aW)) (h:List aW) (id:Nat),(∀s,(id,s)∉sets)→Heap.get (cV h sets) id=Heap.get h id
 |[],h,id,_=>rfl
 |(i,s)::r,h,id,hn=>by
  simp only[cV]
  rw[dL r _ id (fun s' hs'=>hn s' (List.mem_cons_of_mem _ hs')),Heap.get_set]
  rw[if_neg]
  rintro⟨e,_⟩
  subst e
  exact hn s (List.mem_cons_self)
theorem eK: ∀(sets:List (Nat×aW)) (h:List aW),(cV h sets).length=h.length
 |[],h=>rfl
 |(i,s)::r,h=>by simp[cV,eK r]
theorem nO: ∀ {a b:List Nat},cP (a++b)=true→cP b=true∧ ∀x∈a,x∉b
 |[],b,h=>⟨h,fun x hx=>by cases hx⟩
 |y::a,b,h=>by
  simp only[List.cons_append,cP,Bool.and_eq_true,rpS,Bool.not_eq_true']at h
  obtain⟨h1,h2⟩:=nO h.2
  refine⟨h1,fun x hx=> ?_⟩
  rcases List.mem_cons.1 hx with e|e
  ·subst e
   intro hb
   have:(a++b).elem x=true:=List.elem_eq_true_of_mem (List.mem_append_right _ hb)
   rw[h.1]at this;cases this
  ·exact h2 x e
theorem vH: ∀ {l:List aF},xK l=[]→ ∀i,(l.getD i .any).ids=[]
 |[],_,i=>by simp[aF.ids]
 |x::l,h,i=>by
  simp only[xK,List.append_eq_nil_iff]at h
  cases i with
  |zero=>simpa using h.1
  |succ i=>simpa using vH h.2 i
theorem eM {c:Con} (h:c.free=true) (q:Nat):(c.cell q).ids=[]:=by
 cases c with
 |ints k xs=>simp[Con.cell,aF.ids]
 |bools bs=>simp[Con.cell,aF.ids]
 |ivs k xss=>simp[Con.cell,aF.ids]
 |recs e n f=>simp[Con.free]at h
 |cells l=>
  simp only[Con.free,List.isEmpty_iff]at h
  exact vH h q
theorem C7 {w0 w:World} {M:Nat→Prop} {h:List aW} {ρ:Rho} (m:Mem X w0 M h ρ w) {get:Get}
  {x y:aF} {v:Value} {sets:List (Nat×aW)} {o:List Bool} (hg: ∀id s,(id,s)∈sets→ ∀c,get id=.live c→Heap.get h id=.live c) (hf:froz get x=some (y,sets,o)) (ho: ∀b∈o,b=true) (hx:CR X w ρ x v):
  ∃ρ',d5 X w0 M h ρ w sets ρ'∧CR X w ρ' y v:=by
 have triv: ∀y,some (x,([]:List (Nat×aW)),([]:List Bool))=some (y,sets,o)→ ∃ρ',d5 X w0 M h ρ w sets ρ'∧CR X w ρ' y v:=by
  intro y e
  injection e with e;injection e with e1 e2;injection e2 with e2 e3
  subst e1 e2 e3
  exact⟨ρ,d5.nil m,hx⟩
 unfold froz at hf
 split at hf
 ·rename_i id len es cap
  split at hf
  ·rename_i c hs
   cases hfr:c.free with
   |false=>rw[hfr]at hf;cases hf
   |true=>
   rw[hfr]at hf
   injection hf with hf;injection hf with e1 e2;injection e2 with e2 e3
   subst e1 e2 e3
   have hs':=hg _ _ (List.mem_singleton.2 rfl) _ hs
   have hz:len*es=c.size:=by simpa [dE]using ho _ (List.mem_singleton.2 rfl)
   obtain⟨mk,mm⟩:=m.kill (id:=id) (by rw[hs'];simp)
   refine⟨upd ρ id .dead,⟨mk,by simpa [cV]using mm,fun j hj=>bG _ _ (fun e=>hj _ (by subst e;exact List.mem_singleton.2 rfl))⟩, ?_⟩
   rcases cW m hs' hx with⟨b,k,ty,n,hb,rfl,⟨cs,ty',hrow,hsz,hcs⟩,hsh,hn,hl,hcap⟩|⟨a,rfl,rfl,hcap⟩
   ·rw[Nat.zero_mul]
    refine .view none c len es cap b 0 k (fun q=>cs.getD q undef) (fun _=> ?_) (fun q hq=> ?_) (fun q hq=>(((hcs q hq).mono mk).free (eM hfr q))) hz hl hcap (fun _ h=>by cases h)
    ·rintro(⟨j,hj⟩|hx')
     rotate_left
     ·exact m.notX hb hx'
     by_cases e:j=id
     ·subst e;rw[b8]at hj;cases hj
     ·rw[bG _ _ e]at hj;exact e (m.inj j id b hj hb)
    ·have hq':q<cs.size:=by omega
     simp[World.cell?,hrow,Array.getD,hq']
   ·exact .viewNone none c es cap a 0 (by omega) hcap (fun _ h=>by cases h) (fun _=>rfl)
  ·cases hf
 ·cases hf
 ·cases hf
 ·cases hf
 ·exact triv _ hf
theorem i8 {w0 w:World} {M:Nat→Prop} {get:Get}:
  ∀ {l l':List aF} {vs:List Value} {sets:List (Nat×aW)} {o:List Bool} {h:List aW} {ρ:Rho},Mem X w0 M h ρ w→
  (∀id s,(id,s)∈sets→ ∀c,get id=.live c→Heap.get h id=.live c)→
  f7 get l=some (l',sets,o)→cP (sets.map (·.1))=true→(∀b∈o,b=true)→vs.length=l.length→(∀q,q<l.length→CR X w ρ (l.getD q .any) (vs.getD q undef))→
  ∃ρ',d5 X w0 M h ρ w sets ρ'∧l'.length=l.length∧(∀q,q<l'.length→CR X w ρ' (l'.getD q .any) (vs.getD q undef))
 |[],l',vs,sets,o,h,ρ,m,hh,hf,hd,ho,hv,hx=>by
  simp[f7]at hf
  obtain⟨rfl,rfl,rfl⟩:=hf
  exact⟨ρ,d5.nil m,rfl,fun q hq=>by simp at hq⟩
 |x::l,l',vs,sets,o,h,ρ,m,hh,hf,hd,ho,hv,hx=>by
  cases vs with
  |nil=>simp at hv
  |cons v vs=>
   simp only[f7]at hf
   split at hf
   ·rename_i y s o1 ys s' o2 e1 e2
    injection hf with hf;injection hf with f1 f2;injection f2 with f2 f3
    subst f1 f2 f3
    obtain⟨ρ1,k1,hy⟩:=C7 m (fun id s hi=>hh id s (List.mem_append_left _ hi)) e1 (fun b hb=>ho b (List.mem_append_left _ hb)) (by simpa using hx 0 (by simp))
    rw[List.map_append]at hd
    obtain⟨hd1,hd2⟩:=nO hd
    obtain⟨ρ2,k2,hl,hys⟩:=i8 (vs:=vs) k1.mem (fun id t hi c hc=>by
      rw[dL _ _ _ (fun t' ht'=>hd2 id (List.mem_map.2 ⟨(id,t'),ht',rfl⟩) (List.mem_map.2 ⟨(id,t),hi,rfl⟩))]
      exact hh id t (List.mem_append_right _ hi) c hc) e2 hd1 (fun b hb=>ho b (List.mem_append_right _ hb)) (by simpa using hv)
     (fun q hq=>by have:=(hx (q+1) (by simpa using hq)).mono k1.mono;simpa using this)
    refine⟨ρ2,⟨k1.mono.trans k2.mono,by rw[hU];exact k2.mem,fun id hid=> ?_⟩,by simp[hl],fun q hq=> ?_⟩
    ·rw[k2.other id (fun t ht=>hid t (List.mem_append_right _ ht)),k1.other id (fun t ht=>hid t (List.mem_append_left _ ht))]
    ·cases q with
     |zero=>simpa using hy.mono k2.mono
     |succ q=>simpa using hys q (by simpa using hq)
   ·cases hf
end
section
variable {X : Nat → Prop}
def VV (X:Nat→Prop) (P:Program) (w0:World) (M:Nat→Prop) (h:List aW) (ρ:Rho) (w:World) (eff:Eff) (s:Sem Unit):Prop:=
 ∃w' ρ',s.run P w=.ok () w'∧bN w ρ w' ρ'∧Mem X w0 M (cV h eff.sets) ρ' w'∧eff.val=.tup []
theorem QD {c:Con} {i es j m:Nat} (h:c.has i es j m=true):i*es+j+m≤c.size:=by
 have gen: ∀n,inB i es j m n=true→i*es+j+m≤n:=by
  intro n h
  unfold inB at h
  split at h
  ·simp[dE]at h;omega
  ·simp[dE]at h;omega
 cases c with
 |recs e n f=>
  simp only[Con.has,Bool.and_eq_true,rpS,decide_eq_true_eq,beq_iff_eq]at h
  obtain⟨⟨he,hi⟩,hj⟩:=h
  subst he
  simp only[Con.size]
  have h2:(i+1)*e≤n*e:=Nat.mul_le_mul_right _ hi
  rw[Nat.add_mul,Nat.one_mul]at h2;omega
 |ints k xs=>exact gen _ h
 |bools bs=>exact gen _ h
 |ivs k xss=>exact gen _ h
 |cells cs=>exact gen _ h
section
variable {P : Program} {tt : Tab} (hT : iV P tt) {w0 w : World} {M : Nat → Prop} {h : List aW} {ρ : Rho} (m : Mem X w0 M h ρ w)
include m
theorem lP {t id i es j b:Nat} {ti:TI} {inf:TypeInfo} {z:Value} {d:TypeDesc} (k:iE P t ti inf z d) {c c':Con} {l:List aF} {v:Value}
  (hb:ρ id=.row b) (hrow:K9 X w ρ c b) (hp:c.puts i es j l=some c') (hvs:v.cells.size=l.length) (hx: ∀q,q<l.length→CR X w ρ (l.getD q .any) (v.cells.getD q undef))
  (h1: ∀u∈v.cells.toList,u.oneCell'=true) (hl:l.length=ti.size) (hh:c.has i es j ti.size=true):
  ∃w',(Instr.storeAt t (.pointer (some ⟨b,i*es+j,none⟩)) v).run P w=.ok () w'∧bN w ρ w' ρ∧Mem X w0 M (h.set id (.live c')) ρ w':=by
 obtain⟨cs,ty,hrw,hsz,hcs⟩:=hrow
 have hle:=QD hh
 have hst:=run_storeCells_at P b (i*es+j) ty v.cells.toList 0 cs w hrw (by simp;omega) h1
 obtain⟨p1,p2⟩:=tA (w:=w) (ρ:=ρ) (cs:=cs) (vs:=v.cells.toList) hp (by simpa using hvs) (fun q hq=>by
  have:=hx q hq;simpa [Array.getD_eq_getD_getElem?,List.getD_eq_getElem?_getD]using this) (by omega) hsz hcs
 obtain⟨g1,g2⟩:=m.write hb c' cs (cs.toList.take (i*es+j)++v.cells.toList++cs.toList.drop (i*es+j+v.cells.toList.length)).toArray ty hrw
  (by simp;omega) (by rw[p1];simp;omega) (fun q hq=>p2 q (by rw[←p1];exact hq))
 refine⟨_, ?_,g1,g2⟩
 simp only[Nat.add_zero]at hst
 simp[Instr.storeAt,Instr.sureAddr,storeVar,bW k,hvs,hl,hst]
include hT in
theorem F7 {get:Get} (hg: ∀id c,get id=.live c→Heap.get h id=.live c) {t:Nat} {x y:AV} {v u:Value} (hx:AVR X w ρ x v) (hy:AVR X w ρ y u) {e:Eff}
  (he:BZ tt get t x y=some e) (ho: ∀b∈e.obl,b=true):VV X P w0 M h ρ w e (Instr.storeAt t v u):=by
 unfold BZ at he
 replace he:=Option.bind_eq_some_iff.1 he
 obtain⟨ti,hti,he⟩:=he
 obtain⟨inf,z,d,k⟩:=bR hT hti
 split at he
 ·rename_i id i es j l hl
  obtain⟨c1,c2,c3⟩:=hy.cells hl
  cases hx with
  |c _ _ hx=>
  split at he
  ·rename_i c hs
   have hs':=hg _ _ hs
   obtain⟨b,hb,rfl,hrow⟩:=gU m hs' hx
   split at he
   ·rename_i hlen
    split at he
    ·rename_i kk xss
     split at he
     ·rename_i l' s o hf
      split at he
      ·rename_i c' hp
       injection he with he;subst he
       have hnd:cP (id::s.map (·.1))=true:=ho _ (by simp)
       simp only[cP,Bool.and_eq_true,rpS,Bool.not_eq_true']at hnd
       have hidn: ∀t',(id,t')∉s:=fun t' ht'=>by
        have:(s.map (·.1)).elem id=true:=List.elem_eq_true_of_mem (List.mem_map.2 ⟨(id,t'),ht',rfl⟩)
        rw[hnd.1]at this;cases this
       obtain⟨ρ1,k1,hl',hys⟩:=i8 m (fun id _ _ c hc=>hg id c hc) hf hnd.2 (fun b hb=>ho b (by simp[hb])) (vs:=u.cells.toList) (by simpa using c1)
        (fun q hq=>by have:=c2 q hq;simpa [Array.getD_eq_getD_getElem?,List.getD_eq_getElem?_getD]using this)
       obtain⟨w',hrun,g1,g2⟩:=lP k1.mem k (by rw[k1.other id hidn];exact hb) (c:=.ivs kk xss) (by
         obtain⟨cs,ty,r1,r2,r3⟩:=hrow
         exact⟨cs,ty,r1,r2,fun q hq=>(r3 q hq).mono k1.mono⟩) hp (by rw[hl'];exact c1) (fun q hq=>by
         have:=hys q hq;simpa [Array.getD_eq_getD_getElem?,List.getD_eq_getElem?_getD]using this) c3 (by rw[hl'];exact hlen) (ho _ (by simp))
       exact⟨w',ρ1,hrun,k1.mono.trans g1,by rw[hU];simpa [cV]using g2,rfl⟩
      ·cases he
     ·cases he
    ·split at he
     ·rename_i c' hp
      injection he with he;subst he
      obtain⟨w',hrun,g1,g2⟩:=lP m k hb hrow hp c1 c2 c3 hlen (ho _ (by simp))
      exact⟨w',ρ,hrun,g1,by simpa [cV]using g2,rfl⟩
     ·cases he
   ·cases he
  ·cases he
 ·cases he
omit m in
theorem gO {w:World} {ρ:Rho} {α:Type} (f:aF→Option α) (g:α→aF) (d:α) (hf: ∀x a v,f x=some a→CR X w ρ x v→CR X w ρ (g a) v):
  ∀ {l:List aF} {as:List α} {vs:List Value},mF f l=some as→vs.length=l.length→(∀q,q<l.length→CR X w ρ (l.getD q .any) (vs.getD q undef))→
  as.length=l.length∧ ∀q,q<as.length→CR X w ρ (g (as.getD q d)) (vs.getD q undef)
 |[],as,vs,h,hv,hx=>by
  simp[mF]at h;subst h;exact⟨rfl,fun q hq=>by simp at hq⟩
 |x::r,as,vs,h,hv,hx=>by
  cases vs with
  |nil=>simp at hv
  |cons v vs=>
   simp only[mF]at h
   split at h
   ·rename_i a l h1 h2
    injection h with h;subst h
    obtain⟨e1,e2⟩:=gO f g d hf h2 (vs:=vs) (by simpa using hv) (fun q hq=>by have:=hx (q+1) (by simpa using hq);simpa using this)
    refine⟨by simp[e1],fun q hq=> ?_⟩
    cases q with
    |zero=>have:=hx 0 (by simp);simpa using hf x a v h1 (by simpa using this)
    |succ q=>simpa using e2 q (by simpa using hq)
   ·cases h
omit m in
theorem pW {w:World} {ρ:Rho} {ck:CK} {l:List aF} {c:Con} {vs:List Value} (h:v4 ck l=some c) (hv:vs.length=l.length)
  (hx: ∀q,q<l.length→CR X w ρ (l.getD q .any) (vs.getD q undef)):c.size=l.length∧ ∀q,q<c.size→CR X w ρ (c.cell q) (vs.getD q undef):=by
 cases ck with
 |cells=>simp[v4]at h;subst h;exact⟨rfl,hx⟩
 |ints k=>
  obtain⟨as,h1,h2⟩:=Option.map_eq_some_iff.1 h;subst h2
  exact gO (QG k) (.int k) 0 (fun x a v hx hv=>by
   unfold QG at hx;split at hx
   ·split at hx
    ·rename_i hk;subst hk;injection hx with hx;subst hx;exact hv
    ·cases hx
   ·cases hx) h1 hv hx
 |bools=>
  obtain⟨as,h1,h2⟩:=Option.map_eq_some_iff.1 h;subst h2
  exact gO H7 .bool false (fun x a v hx hv=>by
   unfold H7 at hx;split at hx
   ·injection hx with hx;subst hx;exact hv
   ·cases hx) h1 hv hx
 |ivs k=>
  obtain⟨as,h1,h2⟩:=Option.map_eq_some_iff.1 h;subst h2
  exact gO (ivC k) (fun xs=> .view none (.ints k xs) xs.length 1 none) [] (fun x a v hx hv=>by
   unfold ivC at hx;split at hx
   ·split at hx
    ·rename_i hk;subst hk;injection hx with hx;subst hx;exact AH hv
    ·cases hx
   ·cases hx) h1 hv hx
omit m in
theorem uE {get:Get} (hg: ∀id c,get id=.live c→Heap.get h id=.live c) (m:Mem X w0 M h ρ w) {ck:CK} {l:List aF} {c:Con} {sets:List (Nat×aW)} {o:List Bool} {vs:List Value}
  (hc:f0 get ck l=some (c,sets,o)) (ho: ∀b∈o,b=true) (hv:vs.length=l.length) (hx: ∀q,q<l.length→CR X w ρ (l.getD q .any) (vs.getD q undef)):
  ∃ρ',d5 X w0 M h ρ w sets ρ'∧c.size=l.length∧ ∀q,q<c.size→CR X w ρ' (c.cell q) (vs.getD q undef):=by
 have plain: ∀ck,(v4 ck l).map (fun c=>(c,([]:List (Nat×aW)),([]:List Bool)))=some (c,sets,o)→
   ∃ρ',d5 X w0 M h ρ w sets ρ'∧c.size=l.length∧ ∀q,q<c.size→CR X w ρ' (c.cell q) (vs.getD q undef):=by
  intro ck hc
  obtain⟨c1,h1,h2⟩:=Option.map_eq_some_iff.1 hc
  injection h2 with e1 e2;injection e2 with e2 e3
  subst e1 e2 e3
  exact⟨ρ,d5.nil m,pW h1 hv hx⟩
 cases ck with
 |cells=>
  simp only[f0,Option.some.injEq,Prod.mk.injEq]at hc
  obtain⟨rfl,rfl,rfl⟩:=hc
  exact⟨ρ,d5.nil m,rfl,hx⟩
 |ints k=>exact plain _ hc
 |bools=>exact plain _ hc
 |ivs k=>
  simp only[f0]at hc
  split at hc
  ·rename_i l' s o' hf
   obtain⟨c1,h1,h2⟩:=Option.map_eq_some_iff.1 hc
   injection h2 with e1 e2;injection e2 with e2 e3
   subst e1 e2 e3
   obtain⟨ρ1,k1,hl',hys⟩:=i8 m (fun id _ _ c hc=>hg id c hc) hf (ho _ (by simp)) (fun b hb=>ho b (by simp[hb])) hv hx
   obtain⟨e1,e2⟩:=pW h1 (by rw[hl'];exact hv) hys
   exact⟨ρ1,k1,by rw[e1,hl'],e2⟩
  ·cases hc
theorem nN {base:Nat} (hb:Heap.get h base=.unborn) (hbl:base<h.length) {sets:List (Nat×aW)} {ρ1:Rho} (k:d5 X w0 M h ρ w sets ρ1)
  {c:Con} {cs:Array Value} (ty:TypeId) (hsz:c.size≤cs.size) (hc: ∀q,q<c.size→CR X w ρ1 (c.cell q) (cs.getD q undef)) (hn: ∀s,(base,s)∉sets):
  bN w ρ {w with heap:=w.heap.push (.cells cs ty (0,0))} (upd ρ1 base (.row w.heap.size))∧
  Mem X w0 M (cV h (sets++[(base,.live c)])) (upd ρ1 base (.row w.heap.size)) {w with heap:=w.heap.push (.cells cs ty (0,0))}:=by
 obtain⟨a,b⟩:=k.mem.alloc (id:=base) (by rw[dL _ _ _ hn];exact hb) (by rw[eK];exact hbl) c cs ty hsz hc
 exact⟨k.mono.trans a,by rw[hU];simpa [cV]using b⟩
end
theorem EM {get:Get} {x y:aF} {s:List (Nat×aW)} {o:List Bool} (hf:froz get x=some (y,s,o)): ∀id t,(id,t)∈s→ ∃c,get id=.live c:=by
 have triv:some (x,([]:List (Nat×aW)),([]:List Bool))=some (y,s,o)→ ∀id t,(id,t)∈s→ ∃c,get id=.live c:=by
  intro e;injection e with e;injection e with e1 e2;injection e2 with e2 e3;subst e2;intro _ _ h;cases h
 unfold froz at hf
 split at hf
 ·split at hf
  ·rename_i c hs
   cases hfr:c.free with
   |false=>rw[hfr]at hf;cases hf
   |true=>
   rw[hfr]at hf
   injection hf with hf;injection hf with e1 e2;injection e2 with e2 e3;subst e2
   intro i t hi;simp at hi;obtain⟨rfl,rfl⟩:=hi;exact⟨c,hs⟩
  ·cases hf
 ·cases hf
 ·cases hf
 ·cases hf
 ·exact triv hf
theorem nB {get:Get}: ∀ {l l':List aF} {s:List (Nat×aW)} {o:List Bool},f7 get l=some (l',s,o)→ ∀id t,(id,t)∈s→ ∃c,get id=.live c
 |[],l',s,o,h=>by simp[f7]at h;obtain⟨rfl,rfl,rfl⟩:=h;intro _ _ h;cases h
 |x::l,l',s,o,h=>by
  simp only[f7]at h
  split at h
  ·rename_i y s1 o1 ys s2 o2 e1 e2
   injection h with h;injection h with f1 f2;injection f2 with f2 f3;subst f2
   intro id t hi
   rcases List.mem_append.1 hi with hi|hi
   ·exact EM e1 id t hi
   ·exact nB e2 id t hi
  ·cases h
theorem xG {get:Get} {ck:CK} {l:List aF} {c:Con} {s:List (Nat×aW)} {o:List Bool} (hc:f0 get ck l=some (c,s,o)): ∀id t,(id,t)∈s→ ∃c,get id=.live c:=by
 have plain: ∀ck,(v4 ck l).map (fun c=>(c,([]:List (Nat×aW)),([]:List Bool)))=some (c,s,o)→ ∀id t,(id,t)∈s→ ∃c,get id=.live c:=by
  intro ck hc
  obtain⟨c1,h1,h2⟩:=Option.map_eq_some_iff.1 hc
  injection h2 with e1 e2;injection e2 with e2 e3;subst e2;intro _ _ h;cases h
 cases ck with
 |cells=>simp only[f0,Option.some.injEq,Prod.mk.injEq]at hc;obtain⟨rfl,rfl,rfl⟩:=hc;intro _ _ h;cases h
 |ints k=>exact plain _ hc
 |bools=>exact plain _ hc
 |ivs k=>
  simp only[f0]at hc
  split at hc
  ·rename_i l' s' o' hf
   obtain⟨c1,h1,h2⟩:=Option.map_eq_some_iff.1 hc
   injection h2 with e1 e2;injection e2 with e2 e3;subst e2
   exact nB hf
  ·cases hc
end
section
variable {X : Nat → Prop}
def LR (X:Nat→Prop) (w:World) (ρ:Rho) (l:List aF) (vs:List Value):Prop:=vs.length=l.length∧ ∀i,i<l.length→CR X w ρ (l.getD i .any) (vs.getD i undef)
theorem LR.nil (w:World) (ρ:Rho):LR X w ρ [] []:=⟨rfl,fun i hi=>by simp at hi⟩
theorem LR.cons {w:World} {ρ:Rho} {x:aF} {v:Value} {l:List aF} {vs:List Value} (h:CR X w ρ x v) (hl:LR X w ρ l vs):LR X w ρ (x::l) (v::vs):=by
 refine⟨by simp[hl.1],fun i hi=> ?_⟩
 cases i with
 |zero=>simpa using h
 |succ i=>simpa using hl.2 i (by simpa using hi)
theorem LR.append {w:World} {ρ:Rho}: ∀ {a b:List aF} {u v:List Value},LR X w ρ a u→LR X w ρ b v→LR X w ρ (a++b) (u++v)
 |[],b,u,v,ha,hb=>by
  have:u=[]:=by simpa using ha.1
  subst this;simpa using hb
 |x::a,b,u,v,ha,hb=>by
  cases u with
  |nil=>have:=ha.1;simp at this
  |cons y u=>
   have h0:=ha.2 0 (by simp)
   exact LR.cons (by simpa using h0) (LR.append ⟨by simpa using ha.1,fun i hi=>by simpa using ha.2 (i+1) (by simpa using hi)⟩ hb)
theorem LR.take {w:World} {ρ:Rho} {l:List aF} {vs:List Value} (h:LR X w ρ l vs) (n:Nat):LR X w ρ (l.take n) (vs.take n):=by
 refine⟨by simp[h.1],fun i hi=> ?_⟩
 rw[List.length_take]at hi
 have h1:i<n:=by omega
 have:=h.2 i (by omega)
 simpa [List.getD_eq_getElem?_getD,List.getElem?_take,h1]using this
theorem LR.drop {w:World} {ρ:Rho} {l:List aF} {vs:List Value} (h:LR X w ρ l vs) (n:Nat):LR X w ρ (l.drop n) (vs.drop n):=by
 refine⟨by simp[h.1],fun i hi=> ?_⟩
 simp at hi
 have:=h.2 (n+i) (by omega)
 simpa [List.getD_eq_getElem?_getD,List.getElem?_drop]using this
theorem LR.mono {w w':World} {ρ ρ':Rho} (m:bN w ρ w' ρ') {l:List aF} {vs:List Value} (h:LR X w ρ l vs):LR X w' ρ' l vs:=⟨h.1,fun i hi=>(h.2 i hi).mono m⟩
theorem AVR.lr {w:World} {ρ:Rho} {x:AV} {v:Value} {l:List aF} (h:AVR X w ρ x v) (hx:cellsOf x=some l):LR X w ρ l v.cells.toList:=by
 obtain⟨a,b,c⟩:=h.cells hx
 exact⟨by simpa using a,fun i hi=>by have:=b i hi;simpa [Array.getD_eq_getD_getElem?,List.getD_eq_getElem?_getD]using this⟩
theorem AVR.of_lr {w:World} {ρ:Rho} {l:List aF} {vs:Array Value} (h:LR X w ρ l vs.toList):AVR X w ρ (.agg l) (.agg vs):=
 .agg _ _ (by simpa using h.1) fun i hi=>by have:=h.2 i hi;simpa [Array.getD_eq_getD_getElem?,List.getD_eq_getElem?_getD]using this
theorem LR.one {w:World} {ρ:Rho} {l:List aF} {vs:List Value} (h:LR X w ρ l vs): ∀u∈vs,u.oneCell'=true:=by
 intro u hu
 obtain⟨i,hi,rfl⟩:=List.getElem_of_mem hu
 have:=(h.2 i (by rw[←h.1];exact hi)).one
 simpa [List.getD_eq_getElem?_getD,hi]using this
theorem z7 (off:Nat): ∀(l:List Value) (k:Nat) (cells:Array Value),off+k+l.length≤cells.size→
  ((l.zipIdx k).foldl (fun(cs:Array Value) (x:Value×Nat)=>cs.setIfInBounds (off+x.2) x.1) cells).toList=cells.toList.take (off+k)++l++cells.toList.drop (off+k+l.length)
 |[],k,cells,h=>by simp
 |v::l,k,cells,h=>by
  simp only[List.zipIdx_cons,List.foldl_cons]
  simp only[List.length_cons]at h
  rw[z7 off l (k+1) (cells.setIfInBounds (off+k) v) (by simp;omega)]
  have e:=list_seg_step cells.toList (off+k) v l (by simp;omega)
  rw[show off+(k+1)=off+k+1 from by omega]
  simpa [Array.toList_setIfInBounds]using e
theorem j6 {w:World} {ρ:Rho} {pa p:Nat→Option (Nat×Nat)} (hp: ∀i x,pa i=some x→p i=some x):
  ∀ {parts:List (Nat×Value)} {as:List (Nat×AV)} {l out:List aF} {cells:Array Value},parts.map (·.1)=as.map (·.1)→(∀q,q<as.length→AVR X w ρ (as.getD q (0,.any)).2 (parts.getD q (0,undef)).2)→
  LR X w ρ l cells.toList→sL pa l as=some out→ ∃arr,Instr.fill p cells parts=some arr∧LR X w ρ out arr.toList∧out.length=l.length
 |[],as,l,out,cells,hi,hx,hl,hf=>by
  have:as=[]:=by cases as<;>simp at hi⊢
  subst this
  simp[sL]at hf;subst hf
  exact⟨cells,rfl,hl,rfl⟩
 |(i,v)::parts,as,l,out,cells,hi,hx,hl,hf=>by
  cases as with
  |nil=>simp at hi
  |cons a as=>
   obtain⟨j,x⟩:=a
   simp at hi
   obtain⟨rfl,hi⟩:=hi
   simp only[sL]at hf
   split at hf
   ·rename_i off size ls h1 h2
    split at hf
    ·rename_i hc
     have hv:=(hx 0 (by simp)).lr (by simpa using h2)
     simp at hv
     have hvs:v.cells.size=size:=by have:=hv.1;simp at this;omega
     have hsz:off+size≤cells.size:=by have:=hl.1;simp at this;omega
     have hz:(v.cells.zipIdx.foldl (fun(cs:Array Value) (x:Value×Nat)=>cs.setIfInBounds (off+x.2) x.1) cells).toList=cells.toList.take off++v.cells.toList++cells.toList.drop (off+size):=by
      rw[←Array.foldl_toList,Array.toList_zipIdx]
      have:=z7 off v.cells.toList 0 cells (by simp;omega)
      simpa [hvs]using this
     obtain⟨arr,e1,e2,e3⟩:=j6 hp (parts:=parts) (as:=as) (cells:=v.cells.zipIdx.foldl (fun(cs:Array Value) (x:Value×Nat)=>cs.setIfInBounds (off+x.2) x.1) cells) hi
      (fun q hq=>by have:=hx (q+1) (by simpa using hq);simpa using this)
      (by rw[hz];exact((hl.take off).append hv).append (hl.drop (off+size))) hf
     refine⟨arr, ?_,e2,by rw[e3];simp;omega⟩
     simp only[Instr.fill,hp _ _ h1,hvs]
     rw[if_neg (by simp;omega)]
     exact e1
    ·cases hf
   ·cases hf
theorem gE (l:List aF): ∀n,(nS l n).length=n*l.length
 |0=>by simp[nS]
 |n+1=>by simp[nS,gE l n,Nat.add_mul,Nat.add_comm]
theorem kM {w:World} {ρ:Rho} {l:List aF} {z:Array Value} (h:LR X w ρ l z.toList) (hl:0<l.length): ∀n,LR X w ρ (nS l n) (((Array.range (n*l.length)).map (z[· %z.size]!)).toList)
 |0=>by simp[nS];exact LR.nil w ρ
 |n+1=>by
  have hz:z.size=l.length:=by simpa using h.1
  have e:((Array.range ((n+1)*l.length)).map (z[· %z.size]!)).toList=z.toList++((Array.range (n*l.length)).map (z[· %z.size]!)).toList:=by
   apply List.ext_getElem?
   intro i
   rw[List.getElem?_append]
   simp only[Array.toList_map,Array.toList_range,List.getElem?_map,List.getElem?_range,Array.length_toList,hz]
   by_cases h1:i<l.length
   ·have h2:i<(n+1)*l.length:=by rw[Nat.add_mul];omega
    simp[h1,h2,Nat.mod_eq_of_lt h1,hz]
   ·by_cases h2:i<(n+1)*l.length
    ·have h3:i-l.length<n*l.length:=by rw[Nat.add_mul,Nat.one_mul]at h2;omega
     have h4:(i-l.length)%l.length=i%l.length:=by
      conv=>rhs;rw[show i=(i-l.length)+l.length from by omega]
      rw[Nat.add_mod_right]
     simp[h1,h2,h3,h4]
    ·have h3: ¬i-l.length<n*l.length:=by rw[Nat.add_mul,Nat.one_mul]at h2;omega
     simp[h1,h2,h3]
  rw[e]
  exact h.append (kM h hl n)
theorem i4 {P:Program} {t:Nat} {ti:TI} {i:TypeInfo} {z:Value} {d:TypeDesc} (k:iE P t ti i z d) (w:World) (ρ:Rho):LR X w ρ ti.zero z.cells.toList:=by
 obtain⟨a,b⟩:=pP (w:=w) (ρ:=ρ) k.zs
 exact⟨a,b⟩
theorem sP {k:IntKind} {c:aF} (h:isZ k c=true):c=.int k 0:=by
 unfold isZ at h
 split at h
 ·simp at h;obtain⟨rfl,rfl⟩:=h;rfl
 ·cases h
theorem fN {α:Type} (n q:Nat) (x d:α) (h:q<n):(List.replicate n x).getD q d=x:=by
 simp[List.getD_eq_getElem?_getD,h]
theorem EY (l:List aF) (x:aF) (hx: ∀c∈l,c=x): ∀n q,q<n*l.length→(nS l n).getD q .any=x:=by
 intro n
 induction n with
 |zero=>intro q h;simp at h
 |succ n ih=>
  intro q h
  rw[Nat.add_mul,Nat.one_mul]at h
  simp only[nS,List.getD_eq_getElem?_getD,List.getElem?_append]
  split
  ·rename_i h1
   simp[List.getElem?_eq_getElem h1,hx _ (List.getElem_mem h1)]
  ·rename_i h1
   have:=ih (q-l.length) (by omega)
   simpa [List.getD_eq_getElem?_getD]using this
theorem lU {ck:CK} {z:List aF} {n:Nat} {c:Con} (h:rK ck z n=some c):c.size=n*z.length∧
  ∀ {w:World} {ρ:Rho} {vs:List Value},LR X w ρ (nS z n) vs→ ∀q,q<c.size→CR X w ρ (c.cell q) (vs.getD q undef):=by
 have mk: ∀(x:aF),c.size=n*z.length→(∀y∈z,y=x)→(∀q,q<c.size→ ∀(w:World) (ρ:Rho) v,CR X w ρ x v→CR X w ρ (c.cell q) v)→
   c.size=n*z.length∧ ∀ {w:World} {ρ:Rho} {vs:List Value},LR X w ρ (nS z n) vs→ ∀q,q<c.size→CR X w ρ (c.cell q) (vs.getD q undef):=by
  intro x hs hx hq
  refine⟨hs,fun {w ρ vs} hl q hlt=> ?_⟩
  have h1:=hl.2 q (by rw[gE];omega)
  rw[EY z x hx n q (by omega)]at h1
  exact hq q hlt w ρ _ h1
 unfold rK at h
 split at h
 ·rename_i k y
  cases hz:isZ k y with
  |false=>rw[hz]at h;cases h
  |true=>
   rw[hz]at h;injection h with h;subst h
   have e:=sP hz
   subst e
   refine mk (.int k 0) (by simp[Con.size]) (fun y hy=>by simpa using hy) (fun q hq w ρ v hv=> ?_)
   simp only[Con.cell];rw[fN _ _ _ _ (by simpa [Con.size]using hq)];exact hv
 ·rename_i k _
  cases hz:z.all (isZ k)with
  |false=>rw[hz]at h;cases h
  |true=>
   rw[hz]at h;injection h with h;subst h
   refine mk (.int k 0) (by simp[Con.size]) (fun y hy=>sP (List.all_eq_true.1 hz y hy)) (fun q hq w ρ v hv=> ?_)
   simp only[Con.cell];rw[fN _ _ _ _ (by simpa [Con.size]using hq)];exact hv
 ·injection h with h;subst h
  refine mk (.bool false) (by simp[Con.size]) (fun y hy=>by simpa using hy) (fun q hq w ρ v hv=> ?_)
  simp only[Con.cell];rw[fN _ _ _ _ (by simpa [Con.size]using hq)];exact hv
 ·injection h with h;subst h
  refine mk .nils (by simp[Con.size]) (fun y hy=>by simpa using hy) (fun q hq w ρ v hv=> ?_)
  simp only[Con.cell];rw[fN _ _ _ _ (by simpa [Con.size]using hq)]
  cases hv;exact .viewNone none _ 1 none none 0 rfl (fun _ h=>by cases h) (fun _ h=>by cases h) (fun _=>rfl)
 ·injection h with h;subst h
  refine⟨by simp[Con.size,gE],fun {w ρ vs} hl q hq=> ?_⟩
  exact hl.2 q (by simpa [Con.size]using hq)
 ·cases h
end
section
variable {X : Nat → Prop}
theorem eI {P:Program} (t:TypeId) (cs:Array Value) (w:World):(Go.newRow t cs).run P w=.ok ⟨w.heap.size,0,none⟩ {w with heap:=w.heap.push (.cells cs t (0,0))}:=rfl
section
variable {P : Program} {tt : Tab} (hT : iV P tt) {w0 w : World} {M : Nat → Prop} {h : List aW} {ρ : Rho} (m : Mem X w0 M h ρ w)
 {get:Get} (hg: ∀id c,get id=.live c→Heap.get h id=.live c) {base:Nat} (hb:Heap.get h base=.unborn) (hbl:base<h.length)
include m
include hg hb hbl in
theorem xV {ck:CK} {l:List aF} {c:Con} {sets:List (Nat×aW)} {o:List Bool} {vs:Array Value} {x:AV} {v:Value} {e:Eff}
  (hc:f0 get ck l=some (c,sets,o)) (he:newRow base x c sets o=some e) (ho: ∀b∈e.obl,b=true) (hl:LR X w ρ l vs.toList) (ty:TypeId)
  (hv: ∀w' ρ',ρ' base=.row w.heap.size→w'.heap[w.heap.size]? =some (.cells vs ty (0,0))→AVR X w' ρ' x v) {s:Sem Value}
  (hs:s.run P w=.ok v {w with heap:=w.heap.push (.cells vs ty (0,0))}):Res X P w0 M h ρ w e s:=by
 injection he with he;subst he
 obtain⟨ρ1,k1,e1,e2⟩:=uE hg m hc ho (vs:=vs.toList) hl.1 hl.2
 obtain⟨g1,g2⟩:=nN m hb hbl k1 (cs:=vs) ty (by rw[e1];have:=hl.1;simp at this;omega) (fun q hq=>by
  have:=e2 q hq;simpa [Array.getD_eq_getD_getElem?,List.getD_eq_getElem?_getD]using this) (fun t ht=>by
  obtain⟨c',hc'⟩:=xG hc base t ht
  have:=hg _ _ hc'
  rw[hb]at this;cases this)
 exact⟨v,_,_,hs,g1,g2,hv _ _ (b8 _ _ _) (by simp)⟩
include hT hg hb hbl in
theorem EZ {t:Nat} {e:Eff} (he:((tt.ti t).bind fun te=>(f0 get (D9 te.ck) te.zero).bind fun(c,s,o)=>newRow base (.c (.ptr base 0 0 0)) c s o)=some e)
  (ho: ∀b∈e.obl,b=true):Res X P w0 M h ρ w e (Instr.alloc t true (.tuple #[])):=by
 replace he:=Option.bind_eq_some_iff.1 he
 obtain⟨te,hti,he⟩:=he
 obtain⟨i,z,d,k⟩:=bR hT hti
 replace he:=Option.bind_eq_some_iff.1 he
 obtain⟨⟨c,s,o⟩,hc,he⟩:=he
 refine xV m hg hb hbl hc he ho (vs:=z.cells) (i4 k w ρ) t (fun w' ρ' hr _=> .c _ _ (.ptr base 0 0 0 _ hr)) (v:=.pointer (some ⟨w.heap.size,0,none⟩)) ?_
 simp only[Instr.alloc,Sem.run_bind,hE k,Result.andThen_ok,newVar,eI,Sem.run_pure]
include hT hg hb hbl in
theorem N7 {t:Nat} {x:AV} {v:Value} (hx:AVR X w ρ x v) {e:Eff} (he:((tt.ti t).bind fun te=>(cellsOf x).bind fun l=>
   if l.length=te.size then(f0 get (D9 te.ck) l).bind fun(c,s,o)=>newRow base (.c (.ptr base 0 0 0)) c s o else none)=some e)
  (ho: ∀b∈e.obl,b=true):Res X P w0 M h ρ w e (Instr.box t v):=by
 replace he:=Option.bind_eq_some_iff.1 he
 obtain⟨te,hti,he⟩:=he
 replace he:=Option.bind_eq_some_iff.1 he
 obtain⟨l,hl,he⟩:=he
 split at he
 ·replace he:=Option.bind_eq_some_iff.1 he
  obtain⟨⟨c,s,o⟩,hc,he⟩:=he
  refine xV m hg hb hbl hc he ho (vs:=v.cells) (hx.lr hl) t (fun w' ρ' hr _=> .c _ _ (.ptr base 0 0 0 _ hr)) (v:=.pointer (some ⟨w.heap.size,0,none⟩)) ?_
  simp only[Instr.box,Sem.run_bind,Result.andThen_ok,newVar,eI,Sem.run_pure]
 ·cases he
include hT in
theorem F2 {t:Nat} {parts:List (Nat×Value)} {as:List (Nat×AV)} (hi:parts.map (·.1)=as.map (·.1)) (hx: ∀q,q<as.length→AVR X w ρ (as.getD q (0,.any)).2 (parts.getD q (0,undef)).2)
  {e:Eff} (he:BU tt t as=some e) {arr:Array (Nat×Value)} (harr:arr.toList=parts):Res X P w0 M h ρ w e (Instr.build t arr):=by
 unfold BU at he
 replace he:=Option.bind_eq_some_iff.1 he
 obtain⟨ti,hti,he⟩:=he
 obtain⟨i,z,d,k⟩:=bR hT hti
 have hdesc:=k.desc
 split at he
 ·rename_i fs hfs
  replace he:=Option.bind_eq_some_iff.1 he
  obtain⟨l,hf,he⟩:=he
  injection he with he;subst he
  rw[hfs]at hdesc
  cases d<;>simp only[fU]at hdesc<;>try (simp at hdesc;done)
  rename_i fields
  simp only[Bool.and_eq_true,rpS,decide_eq_true_eq,List.all_eq_true]at hdesc
  obtain⟨⟨hfl,hag⟩,hall⟩:=hdesc
  have hpl: ∀(l:List Go.Field),(∀f:Go.Field,f∈l→(((P.info? f.type).map (·.size)).getD 0)≠0)→ ∃d7:List (Nat×Nat),
    l.mapM (fun(f:Go.Field)=>(P.info? f.type).map fun i=>(f.offset,i.size))=some d7∧ ∀(j:Nat) (f:Go.Field),l[j]? =some f→ ∃i,P.info? f.type=some i∧d7[j]? =some (f.offset,i.size):=by
   intro l
   induction l with
   |nil=>intro _;exact⟨[],by simp,fun j f hj=>by simp at hj⟩
   |cons f l ih=>
    intro hl
    obtain⟨pl,p1,p2⟩:=ih fun g hg=>hl g (List.mem_cons_of_mem _ hg)
    cases hif:P.info? f.type with
    |none=>have:=hl f List.mem_cons_self;rw[hif]at this;exact absurd rfl this
    |some fi=>
     refine⟨(f.offset,fi.size)::pl,by simp[hif,p1],fun j g hj=> ?_⟩
     cases j with
     |zero=>simp at hj;subst hj;exact⟨fi,hif,by simp⟩
     |succ j=>simpa using p2 j g (by simpa using hj)
  obtain⟨d7,p1,p2⟩:=hpl fields.toList (fun f hf=>hall f hf)
  obtain⟨out,o1,o2,o3⟩:=j6 (w:=w) (ρ:=ρ) (pa:=fun i=>(fs[i]?).bind fun(o,e)=>(tt.ti e).map fun te=>(o,te.size)) (p:=(d7.toArray[·]?)) (fun j x hj=>by
   dsimp only at hj
   obtain⟨⟨o,e⟩,h1,h2⟩:=Option.bind_eq_some_iff.1 hj
   obtain⟨te,h3,h4⟩:=Option.map_eq_some_iff.1 h2
   obtain⟨i',z',d',k'⟩:=bR hT h3
   rw[←hfl,List.getElem?_map]at h1
   obtain⟨f,f1,f2⟩:=Option.map_eq_some_iff.1 h1
   injection f2 with f2 f3
   obtain⟨i'',j1,j2⟩:=p2 j f f1
   have:i''=i':=by rw[f3,k'.info]at j1;injection j1 with j1;exact j1.symm
   subst this
   subst h4
   simp[j2,f2,k'.size]) hi hx (i4 k w ρ) hf
  refine⟨.agg out,w,ρ,run_build w t arr out ?_,bN.refl _ _,m,AVR.of_lr o2⟩
  ·unfold Program.built
   rw[k.info,k.und]
   simp only[k.zero,p1,harr]
   exact o1
 ·rename_i n e' hfs
  replace he:=Option.bind_eq_some_iff.1 he
  obtain⟨te,hte,he⟩:=he
  replace he:=Option.bind_eq_some_iff.1 he
  obtain⟨l,hf,he⟩:=he
  injection he with he;subst he
  obtain⟨i',z',d',k'⟩:=bR hT hte
  rw[hfs]at hdesc
  cases d<;>simp only[fU]at hdesc<;>try (simp at hdesc;done)
  rename_i n' e''
  simp only[Bool.and_eq_true,rpS,decide_eq_true_eq]at hdesc
  obtain⟨⟨rfl,rfl⟩,hag⟩:=hdesc
  obtain⟨out,o1,o2,o3⟩:=j6 (w:=w) (ρ:=ρ) (pa:=fun i=>some (i*te.size,te.size)) (p:=fun i=>some (i*i'.size,i'.size)) (fun j x hj=>by rw[k'.size];exact hj) hi hx (i4 k w ρ) hf
  refine⟨.agg out,w,ρ,run_build w t arr out ?_,bN.refl _ _,m,AVR.of_lr o2⟩
  ·unfold Program.built
   rw[k.info,k.und]
   simp only[k.zero,k'.info,harr]
   exact o1
 ·cases he
include hT hg hb hbl in
theorem tD {t n:Nat} {parts:List (Nat×Value)} {as:List (Nat×AV)} (hi:parts.map (·.1)=as.map (·.1)) (hx: ∀q,q<as.length→AVR X w ρ (as.getD q (0,.any)).2 (parts.getD q (0,undef)).2)
  {e:Eff} (he:jU tt get base t n as=some e) (ho: ∀b∈e.obl,b=true) {arr:Array (Nat×Value)} (harr:arr.toList=parts):Res X P w0 M h ρ w e (Instr.buildSlice t n arr):=by
 unfold jU at he
 replace he:=Option.bind_eq_some_iff.1 he
 obtain⟨ti,hti,he⟩:=he
 obtain⟨i,z,d,k⟩:=bR hT hti
 have hdesc:=k.desc
 split at he
 ·rename_i e' hfs
  replace he:=Option.bind_eq_some_iff.1 he
  obtain⟨te,hte,he⟩:=he
  obtain⟨i',z',d',k'⟩:=bR hT hte
  split at he
  ·rename_i hsmall
   replace he:=Option.bind_eq_some_iff.1 he
   obtain⟨l,hf,he⟩:=he
   replace he:=Option.bind_eq_some_iff.1 he
   obtain⟨⟨c,s,o⟩,hc,he⟩:=he
   rw[hfs]at hdesc
   cases d<;>simp only[fU]at hdesc<;>try (simp at hdesc;done)
   rename_i e1
   simp only[Bool.and_eq_true,rpS,decide_eq_true_eq]at hdesc
   obtain⟨hee,hag⟩:=hdesc
   subst hee
   let zz:Array Value:=if n*i'.size=0 then #[]else z'.cells
   have hzz:LR X w ρ (nS te.zero n) ((Array.range (n*i'.size)).map (zz[· %zz.size]!)).toList:=by
    by_cases h0:n*i'.size=0
    ·rw[h0]
     have:nS te.zero n=[]:=by
      apply List.eq_nil_of_length_eq_zero;rw[gE,k'.zl,←k'.size];exact h0
     rw[this];simp;exact LR.nil w ρ
    ·have hp:0<te.zero.length:=by rw[k'.zl,←k'.size];exact(Nat.eq_zero_or_pos i'.size).elim (fun h1=>by rw[h1]at h0;simp at h0) id
     have:=kM (X:=X) (i4 k' w ρ) hp n
     rw[k'.zl,←k'.size]at this
     simpa [zz,h0]using this
   obtain⟨out,o1,o2,o3⟩:=j6 (w:=w) (ρ:=ρ) (pa:=fun i=>some (i*te.size,te.size)) (p:=fun i=>some (i*i'.size,i'.size)) (fun j x hj=>by rw[k'.size];exact hj) hi hx hzz hf
   have hout:out.size=n*te.size:=by
    have:=o2.1;rw[o3,gE,k'.zl]at this;simpa using this
   refine xV m hg hb hbl hc he ho (vs:=out) o2 e1 (fun w' ρ' hr hrow=> .c _ _ ?_) (v:=.slice (some ⟨w.heap.size,0,none⟩) n n) ?_
   ·have hsh:w'.shape? w.heap.size=some (e1,out.size):=by simp[World.shape?,hrow]
    have:=CR0.sl (w:=w') (L:=fun b=>bH ρ' b∨X b) (ρ:=ρ') base 0 n te.size (some n) w.heap.size n e1 out.size hr hsh (by rw[hout];simp) (Nat.le_refl _) (fun q hq=>by injection hq)
    simpa using this
   ·have hs24: ¬n*i'.size>2^24:=by rw[k'.size];omega
    have hs24': ¬16777216<n*i'.size:=by omega
    subst harr
    by_cases h0:n*i'.size=0
    ·have o1':Instr.fill (fun i=>some (i*i'.size,i'.size)) ((Array.range 0).map ((#[]:Array Value)[· %(#[]:Array Value).size]!)) arr.toList=some out:=by
      simpa [zz,h0]using o1
     simp[Instr.buildSlice,run_underlying k.und,sizeOf,typeInfo,k'.info,h0]at o1'⊢
     rw[o1']
     simp only[Sem.run_map,eI,Result.andThen_ok]
     rfl
    ·exact run_buildSlice w t e1 n arr out i' z' k.und k'.info k'.zero hs24 h0 (by simpa [zz,h0]using o1)
  ·cases he
 ·cases he
end
end
section
variable {X : Nat → Prop}
theorem iF {get:Get} {id:Nat} (h:hJ get id=true): ∃c,get id=.live c:=by
 unfold hJ at h;split at h
 ·exact⟨_,by assumption⟩
 ·cases h
theorem oF {n:Int} (h0:0≤n) (h1:n≤9223372036854775807):IntKind.i64.wrap n=n:=by
 have e:IntKind.i64.wrap n=(if n%18446744073709551616≥9223372036854775808 then n%18446744073709551616-18446744073709551616 else n%18446744073709551616):=by
  unfold IntKind.wrap;simp[IntKind.bits,IntKind.signed]
 rw[e];split<;>omega
theorem dF {w:World} {ρ:Rho} {k:IntKind} {n:Int} {v:Value} (h:AVR X w ρ (.c (.int k n)) v):v=.int k n:=by
 cases h with
 |c _ _ h=>cases h;rfl
theorem g7 {w:World} {ρ:Rho} {b:Bool} {v:Value} (h:AVR X w ρ (.c (.bool b)) v):v=.bool b:=by
 cases h with
 |c _ _ h=>cases h;rfl
theorem x9 {w:World} {ρ:Rho} {b:ByteArray} {v:Value} (h:AVR X w ρ (.c (.str b)) v):v=.string b:=by
 cases h with
 |c _ _ h=>cases h;rfl
theorem cN {w:World} {ρ:Rho} {x:aF} {v:Value} (h:AVR X w ρ (.c x) v):CR X w ρ x v:=by
 cases h with
 |c _ _ h=>exact h
theorem gF {P:Program} (n:Nat) (w:World):(askRoom n).run P w=.ok () w:=by
 unfold askRoom;split<;>rfl
theorem mK {w':World} {ρ':Rho} {base b:Nat} {n es c:Nat} {cap:Option Nat} {ty:TypeId} {cs:Array Value} (hr:ρ' base=.row b) (hrow:w'.heap[b]? =some (.cells cs ty (0,0)))
  (hn:n≤c) (hc:c*es≤cs.size) (hcap:mR cap c):AVR X w' ρ' (.c (.sl base 0 n es cap)) (.slice (some ⟨b,0,none⟩) n c):=by
 have hsh:w'.shape? b=some (ty,cs.size):=by simp[World.shape?,hrow]
 have:=CR0.sl (w:=w') (L:=fun b=>bH ρ' b∨X b) (ρ:=ρ') base 0 n es cap b c ty cs.size hr hsh (by simpa using hc) hn hcap
 exact .c _ _ (by simpa using this)
theorem tY {P:Program} {t:Nat} {ti:TI} {i:TypeInfo} {z:Value} {d:TypeDesc} (k:iE P t ti i z d):z.cells.size=ti.size:=by
 have:=(pP (X:=fun _=>False) (w:=default) (ρ:=fun _=> .dead) k.zs).1
 rw[k.zl]at this
 simpa using this
section
variable {P : Program} {tt : Tab} (hT : iV P tt) {w0 w : World} {M : Nat → Prop} {h : List aW} {ρ : Rho} (m : Mem X w0 M h ρ w)
 {get:Get} (hg: ∀id c,get id=.live c→Heap.get h id=.live c) {base:Nat} (hb:Heap.get h base=.unborn) (hbl:base<h.length)
include m
include hT hb hbl in
theorem uN {t:Nat} {x y:AV} {v u:Value} (hx:AVR X w ρ x v) (hy:AVR X w ρ y u) {e:Eff} (he:m7 tt base t x y=some e) (ho: ∀b∈e.obl,b=true):
  Res X P w0 M h ρ w e (Instr.makeSlice t v u):=by
 unfold m7 at he
 replace he:=Option.bind_eq_some_iff.1 he
 obtain⟨ti,hti,he⟩:=he
 obtain⟨i,z,d,k⟩:=bR hT hti
 have hdesc:=k.desc
 split at he
 ·rename_i e' k1 n k2 c1 hfs
  replace he:=Option.bind_eq_some_iff.1 he
  obtain⟨te,hte,he⟩:=he
  obtain⟨i',z',d',k'⟩:=bR hT hte
  split at he
  ·rename_i hsm
   obtain⟨hbytes,hsize⟩:=hsm
   replace he:=Option.bind_eq_some_iff.1 he
   obtain⟨c,hc,he⟩:=he
   injection he with he;subst he
   have o1:0≤n:=by simpa using ho (decide (0≤n)) (by simp)
   have o2:n≤c1:=by simpa using ho (decide (n≤c1)) (by simp)
   have o3:c1≤274877906944:=by simpa using ho (decide (c1≤274877906944)) (by simp)
   rw[hfs]at hdesc
   cases d<;>simp only[fU]at hdesc<;>try (simp at hdesc;done)
   rename_i e1
   simp only[Bool.and_eq_true,rpS,decide_eq_true_eq]at hdesc
   obtain⟨hee,hag⟩:=hdesc
   subst hee
   obtain rfl:=dF hx
   obtain rfl:=dF hy
   have hwn:=oF o1 (by omega)
   have hwc:=oF (n:=c1) (by omega) (by omega)
   obtain⟨z1,z2⟩:=lU hc
   have hzl:te.zero.length=te.size:=k'.zl
   have hp:0<te.zero.length:=by omega
   have hlr:=kM (X:=X) (i4 k' w ρ) hp c1.toNat
   have hlrn:=kM (X:=X) (i4 k' w ρ) hp n.toNat
   rw[hzl]at hlr hlrn
   have hnc:n.toNat≤c1.toNat:=by omega
   have hmul:n.toNat*te.size≤c1.toNat*te.size:=Nat.mul_le_mul_right _ hnc
   obtain⟨g1,g2⟩:=m.alloc hb hbl c ((Array.range (c1.toNat*te.size)).map (z'.cells[· %z'.cells.size]!)) e1 (by rw[z1,hzl];simp;exact hmul) (fun q hq=>by
    have:=z2 hlrn q hq
    have hq2:q<n.toNat*te.size:=by rw[z1,hzl]at hq;exact hq
    have hq3:q<c1.toNat*te.size:=by omega
    simp[List.getD_eq_getElem?_getD,hq2]at this
    simpa [Array.getD_eq_getD_getElem?,hq3]using this)
   refine⟨_,_,_, ?_,g1,by simpa [cV]using g2,mK (ty:=e1) (cs:=(Array.range (c1.toNat*te.size)).map (z'.cells[· %z'.cells.size]!)) (b8 _ _ _) (by simp) hnc (by simp) (fun q hq=>Option.some.inj hq)⟩
   have hbc: ¬(281474976710656:Int)<(i'.bytes:Int)*c1:=by
    have h1:(i'.bytes:Int)≤256:=by rw[k'.bytes];omega
    have h2:(i'.bytes:Int)*c1≤256*c1:=Int.mul_le_mul_of_nonneg_right h1 (by omega)
    omega
   have hne: ¬c1.toNat*te.size=0∨c1.toNat*te.size=0:=by omega
   have hn0: ¬c1<0:=by omega
   have hl0: ¬n<0:=by omega
   have hlc: ¬n>c1:=by omega
   by_cases hz0:c1.toNat*te.size=0
   ·simp[Instr.makeSlice,run_underlying k.und,asInt,asIntOf,lQ k',hwn,hwc,hn0,hl0,hlc,hbc,gF,bW k',hz0,eI]
    have e0: ∀f:Nat→Value,(Array.range 0).map f= #[]:=fun f=>Array.eq_empty_of_size_eq_zero (by simp)
    rw[e0,e0]
   ·simp[Instr.makeSlice,run_underlying k.und,asInt,asIntOf,lQ k',hwn,hwc,hn0,hl0,hlc,hbc,gF,bW k',hz0,hE k',eI]
  ·cases he
 ·cases he
omit m in
theorem uW {c cx c':Con} (h:c.app cx=some c'):c'.size=c.size+cx.size∧(∀q,q<c.size→c'.cell q=c.cell q)∧ ∀q,c'.cell (c.size+q)=cx.cell q:=by
 have gl: ∀ {α:Type} (xs ys:List α) (d:α) (q:Nat),q<xs.length→(xs++ys).getD q d=xs.getD q d:=fun xs ys d q hq=>by
  simp[List.getD_eq_getElem?_getD,List.getElem?_append,hq]
 have gr: ∀ {α:Type} (xs ys:List α) (d:α) (q:Nat),(xs++ys).getD (xs.length+q) d=ys.getD q d:=fun xs ys d q=>by
  have: ¬xs.length+q<xs.length:=by omega
  simp[List.getD_eq_getElem?_getD,List.getElem?_append,this]
 unfold Con.app at h
 split at h
 ·split at h
  ·rename_i hk;subst hk;injection h with h;subst h
   exact⟨by simp[Con.size],fun q hq=>by simp only[Con.cell];rw[gl _ _ _ _ hq],fun q=>by simp only[Con.cell,Con.size];rw[gr]⟩
  ·cases h
 ·injection h with h;subst h
  exact⟨by simp[Con.size],fun q hq=>by simp only[Con.cell];rw[gl _ _ _ _ hq],fun q=>by simp only[Con.cell,Con.size];rw[gr]⟩
 ·split at h
  ·rename_i hk;subst hk;injection h with h;subst h
   exact⟨by simp[Con.size],fun q hq=>by simp only[Con.cell];rw[gl _ _ _ _ hq],fun q=>by simp only[Con.cell,Con.size];rw[gr]⟩
  ·cases h
 ·injection h with h;subst h
  exact⟨by simp[Con.size],fun q hq=>by simp only[Con.cell];rw[gl _ _ _ _ hq],fun q=>by simp only[Con.cell,Con.size];rw[gr]⟩
 ·cases h
theorem qO (hg: ∀id c,get id=.live c→Heap.get h id=.live c) {sz n:Nat} {x:aF} {v:Value} {cx:Con} {o:List Bool} (hw:K1 get sz x=some (cx,n,o)) (ho: ∀b∈o,b=true) (hx:CR X w ρ x v):
  ∃(a:Option Addr) (k:Nat) (news:List Value),v=.slice a n k∧news.length=n*sz∧cx.size=n*sz∧(∀q,q<cx.size→CR X w ρ (cx.cell q) (news.getD q undef))∧
   ((∃b,a=some b∧ ∀j u,news[j]? =some u→w.cell? (b.add j)=some u)∨n=0):=by
 have mk: ∀(b base:Nat) (u:Nat→Value) (nn:Nat),(∀q,q<nn→w.cell? ⟨b,base+q,none⟩=some (u q))→
   ∀j x,((List.range nn).map u)[j]? =some x→w.cell? ((⟨b,base,none⟩:Addr).add j)=some x:=by
  intro b base u nn hu j x hj
  rw[dU]
  by_cases h1:j<nn
  ·simp[h1]at hj;rw[←hj];exact hu j h1
  ·simp[h1]at hj
 unfold K1 at hw
 split at hw
 ·rename_i nl c len es cap
  cases he:(es==sz)with
  |false=>rw[he]at hw;cases hw
  |true=>
   rw[he]at hw
   have:es=sz:=by simpa using he
   subst this
   injection hw with hw;injection hw with h1 h2;injection h2 with h2 h3;subst h1 h2 h3
   cases hx with
   |view _ _ _ _ _ b base k u hl hc hu hz hk hcap hnl=>
    refine⟨_,k,(List.range (len*es)).map u,rfl,by simp,hz.symm,fun q hq=> ?_,.inl ⟨_,rfl,mk b base u _ (fun q hq=>hc q (by omega))⟩⟩
    have:q<len*es:=by omega
    simpa [List.getD_eq_getElem?_getD,this]using (hu q hq).lift (ρ:=ρ)
   |viewNone _ _ _ _ a k hz hcap hnl hk=>
    exact⟨a,k,[],rfl,by simp,by simpa using hz,fun q hq=>by omega,.inr rfl⟩
 ·rename_i id len es cap
  cases he:(es==sz)with
  |false=>rw[he]at hw;cases hw
  |true=>
   rw[he]at hw
   have:es=sz:=by simpa using he
   subst this
   dsimp only[cond_true]at hw
   split at hw
   ·rename_i c hs
    injection hw with hw;injection hw with h1 h2;injection h2 with h2 h3;subst h1 h2 h3
    have hz:len*es=c.size:=by simpa [dE]using ho _ (List.mem_singleton.2 rfl)
    rcases cW m (hg _ _ hs) hx with⟨b,k,ty,nn,hb,rfl,⟨cs,ty',hrow,hsz,hcs⟩,hsh,hn,hl,hcap⟩|⟨a,rfl,rfl,hcap⟩
    ·refine⟨_,k,(List.range (len*es)).map (fun q=>cs.getD q undef),rfl,by simp,hz.symm,fun q hq=> ?_,.inl ⟨_,rfl, ?_⟩⟩
     ·have:q<len*es:=by omega
      simpa [List.getD_eq_getElem?_getD,this]using hcs q hq
     ·rw[Nat.zero_mul]
      exact mk b 0 _ _ (fun q hq=>by
       have hq':q<cs.size:=by omega
       simp[World.cell?,hrow,Array.getD,hq'])
    ·exact⟨a,0,[],rfl,by simp,by omega,fun q hq=>by omega,.inr rfl⟩
   ·cases hw
 ·cases hw
theorem Mem.move {id b:Nat} {c:Con} (hr:ρ id=.row b) (hs:Heap.get h id=.live c) (hb:Heap.get h base=.unborn) (hbl:base<h.length):
  bN w ρ w (upd (upd ρ id .dead) base (.row b))∧Mem X w0 M ((h.set id .dead).set base (.live c)) (upd (upd ρ id .dead) base (.row b)) w:=by
 have hne:base≠id:=fun e=>by rw[e,hs]at hb;cases hb
 have hid:id<h.length:=Heap.lt_of_live (by rw[hs];simp)
 have hrb:ρ base=.unborn:=by
  have:=m.slot base;rw[hb]at this
  cases hx:ρ base<;>rw[hx]at this<;>first|rfl|exact this.elim
 have hmono:bN w ρ w (upd (upd ρ id .dead) base (.row b)):=by
  refine⟨fun _ _ _=>rfl,fun _ _=>rfl,Nat.le_refl _,fun j hj=> ?_,fun j hj=> ?_,fun j k hj=> ?_,fun j k hj=> ?_⟩
  ·have h1:j≠base:=fun e=>by rw[e,hrb]at hj;cases hj
   rw[bG _ _ h1]
   by_cases e:j=id
   ·subst e;exact b8 _ _ _
   ·rw[bG _ _ e];exact hj
  ·have h1:j≠base:=fun e=>by rw[e,hrb]at hj;cases hj
   rw[bG _ _ h1]
   by_cases e:j=id
   ·subst e;exact .inr (b8 _ _ _)
   ·rw[bG _ _ e];exact .inl hj
  ·have h1:j≠base:=fun e=>by rw[e,hrb]at hj;cases hj
   rw[bG _ _ h1]
   by_cases e:j=id
   ·subst e;exact .inr (b8 _ _ _)
   ·rw[bG _ _ e];exact .inl hj
  ·by_cases e1:j=base
   ·subst e1;rw[b8]at hj;injection hj with hj;subst hj;exact .inl ⟨id,hr⟩
   ·rw[bG _ _ e1]at hj
    by_cases e:j=id
    ·subst e;rw[b8]at hj;cases hj
    ·rw[bG _ _ e]at hj;exact .inl ⟨j,hj⟩
 have key: ∀j k,upd (upd ρ id .dead) base (.row b) j=.row k→(j=base∧k=b)∨(j≠base∧j≠id∧ρ j=.row k):=by
  intro j k hj
  by_cases e1:j=base
  ·subst e1;rw[b8]at hj;injection hj with hj;exact .inl ⟨rfl,hj.symm⟩
  ·rw[bG _ _ e1]at hj
   by_cases e:j=id
   ·subst e;rw[b8]at hj;cases hj
   ·rw[bG _ _ e]at hj;exact .inr ⟨e1,e,hj⟩
 refine⟨hmono,⟨fun j=> ?_,fun i j k hi hj=> ?_,fun j k hj=> ?_,m.os,m.tape,m.output,m.size,m.keep,m.foreign⟩⟩
 ·rw[Heap.get_set]
  by_cases e1:j=base
  ·subst e1;rw[if_pos ⟨rfl,by simpa using hbl⟩,b8]
   have:=m.slot id;rw[hs,hr]at this
   exact dT.mono (s:=.live c) (x:=.row b) hmono this (fun _ _=>rfl)
  ·rw[if_neg (fun x=>e1 x.1),bG _ _ e1,Heap.get_set]
   by_cases e:j=id
   ·subst e;rw[if_pos ⟨rfl,hid⟩,b8];trivial
   ·rw[if_neg (fun x=>e x.1),bG _ _ e];exact(m.slot j).mono hmono fun _ _=>rfl
 ·rcases key i k hi with⟨rfl,rfl⟩|⟨a1,a2,a3⟩<;>rcases key j _ hj with⟨rfl,hk⟩|⟨b1,b2,b3⟩
  ·rfl
  ·exact absurd (m.inj j id _ b3 hr) b2
  ·subst hk;exact absurd (m.inj i id _ a3 hr) a2
  ·exact m.inj i j k a3 b3
 ·rcases key j k hj with⟨rfl,rfl⟩|⟨a1,a2,a3⟩
  ·exact m.own id _ hr
  ·exact m.own j k a3
omit m in
theorem iR {sz n k:Nat} {a:Option Addr} {news:List Value} (hl:news.length=n*sz) (hr:(∃b,a=some b∧ ∀j u,news[j]? =some u→w.cell? (b.add j)=some u)∨n=0):
  (Builtin.firstCells sz n (.slice a n k)).run P w=.ok news.toArray w:=by
 rcases hr with⟨b,rfl,hc⟩|rfl
 ·have:=run_loadCells_list (P:=P) w b news hc
  rw[hl]at this
  simpa [Builtin.firstCells]using this
 ·have:news=[]:=by apply List.eq_nil_of_length_eq_zero;simpa using hl
  subst this
  cases a<;>simp[Builtin.firstCells,loadCells,loadCellsFrom]
omit m in
theorem kI {t u ty e:TypeId} {e2:TypeId} {ie:TypeInfo} {z:Value} (ht:P.underlying t=some (.slice e)) (hu:P.underlying u=some (.slice e2)) (hi:P.info? e=some ie) (hz:ie.zero=some z)
  {a a':Option Addr} {len cap n k:Nat} {olds news:List Value} (hg:cap<len+n) (hs:(len+n)*ie.bytes≤140737488355328) (h63:len+n≤9223372036854775807)
  (hl:news.length=n*ie.size) (hr:(∃b,a=some b∧ ∀j u,news[j]? =some u→w.cell? (b.add j)=some u)∨n=0)
  (hlo:olds.length=len*ie.size) (hro:(∃b,a'=some b∧ ∀j u,olds[j]? =some u→w.cell? (b.add j)=some u)∨len=0):
  (Builtin.append_ #[t,u] ty #[.slice a' len cap,.slice a n k]).run P w=
   .ok (.slice (some ⟨w.heap.size,0,none⟩) (len+n) (grownCap w (len+n) cap e))
    {w with drawn:=w.drawn+1,heap:=w.heap.push (.cells (olds.toArray++news.toArray++Builtin.zeroCells z.cells (grownCap w (len+n) cap e-(len+n))) e (0,0))}:=by
 have hn: ¬(len+n≤cap):=by omega
 have h63': ¬(9223372036854775807<((len:Int)+(n:Int))):=by omega
 have hfit:=growslice_fits (bytes:=ie.bytes) hg hs
 have h48': ¬(281474976710656<Builtin.nextslicecap (len+n) cap*ie.bytes):=by omega
 have hro':(∃b,a'=some b∧ ∀j u,olds[j]? =some u→({w with drawn:=w.drawn+1}:World).cell? (b.add j)=some u)∨len=0:=hro
 have hr':(∃b,a=some b∧ ∀j u,news[j]? =some u→({w with drawn:=w.drawn+1}:World).cell? (b.add j)=some u)∨n=0:=hr
 have hf:(Builtin.firstCells ie.size n (.slice a n k)).run P w.drew=.ok news.toArray w.drew:=iR (P:=P) (k:=k) hl hr'
 have hfo:(Builtin.firstCells ie.size len (.slice a' len cap)).run P w.drew=.ok olds.toArray w.drew:=iR (P:=P) (k:=cap) hlo hro'
 simp[Builtin.append_,run_underlying ht,run_underlying hu,sizeOf,typeInfo,zeroValue,hi,hz,Builtin.lenOf,hn,h63',h48',Question.forced,grownCap,choose,Sem.run,gF]
 simp only[hfo,hf,Result.andThen_ok,eI]
 simp only[←List.append_toArray,Array.append_assoc]
 rfl
omit m in
theorem r5 {t u ty e:TypeId} {e2:TypeId} {ie:TypeInfo} (ht:P.underlying t=some (.slice e)) (hu:P.underlying u=some (.slice e2)) (hi:P.info? e=some ie)
  {a:Option Addr} {b len cap n k:Nat} {news:List Value} {cs:Array Value} {tz:TypeId} (hg:len+n≤cap)
  (hl:news.length=n*ie.size) (hr:(∃b,a=some b∧ ∀j u,news[j]? =some u→w.cell? (b.add j)=some u)∨n=0)
  (hrow:w.heap[b]? =some (.cells cs tz (0,0))) (hcap:cap*ie.size≤cs.size) (h1: ∀v∈news,v.oneCell'=true):
  (Builtin.append_ #[t,u] ty #[.slice (some ⟨b,0,none⟩) len cap,.slice a n k]).run P w=
   .ok (.slice (some ⟨b,0,none⟩) (len+n) cap) (w.setRow b (cs.toList.take (len*ie.size)++news++cs.toList.drop (len*ie.size+news.length)).toArray):=by
 have hf:(Builtin.firstCells ie.size n (.slice a n k)).run P w=.ok news.toArray w:=iR (P:=P) (k:=k) hl hr
 have hle:(len+n)*ie.size≤cap*ie.size:=Nat.mul_le_mul_right _ hg
 rw[Nat.add_mul]at hle
 have hst:=run_storeCells_at P b (len*ie.size) tz news 0 cs w hrow (by omega) h1
 simp only[Nat.add_zero]at hst
 have hadd:(⟨b,0,none⟩:Addr).add (len*ie.size)=⟨b,len*ie.size,none⟩:=by rw[dU];simp
 simp[Builtin.append_,run_underlying ht,run_underlying hu,sizeOf,typeInfo,hi,Builtin.lenOf,hg,hf,hadd,hst]
omit m in
theorem qZ {t u ty e:TypeId} {e2:TypeId} {ie:TypeInfo} (ht:P.underlying t=some (.slice e)) (hu:P.underlying u=some (.slice e2)) (hi:P.info? e=some ie)
  {a a':Option Addr} {k:Nat}:(Builtin.append_ #[t,u] ty #[.slice a' 0 0,.slice a 0 k]).run P w=.ok (.slice a' 0 0) w:=by
 have hf:(Builtin.firstCells ie.size 0 (.slice a 0 k)).run P w=.ok #[] w:=iR (P:=P) (sz:=ie.size) (n:=0) (k:=k) (news:=[]) (by simp) (.inr rfl)
 cases a' with
 |none=>simp[Builtin.append_,run_underlying ht,run_underlying hu,sizeOf,typeInfo,hi,Builtin.lenOf,hf]
 |some a'=>simp[Builtin.append_,run_underlying ht,run_underlying hu,sizeOf,typeInfo,hi,Builtin.lenOf,hf,storeCells]
end
end
end Go.Proofs.YthapjdpkelihiaaGreat.Am
