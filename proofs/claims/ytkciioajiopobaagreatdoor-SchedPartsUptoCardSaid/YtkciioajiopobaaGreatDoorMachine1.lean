/- An abstract machine for the walks of this claim, proved against the model. Conditions: none beyond the statement's own. -/
import Derived.Calls
import Derived.Orders
import Derived.Below
import Derived.Laws.AppendOwn
import Derived.Laws.CopyRow
import Derived.Laws.Rows
import Derived.Laws.Slices
import Derived.Lib.MinMax
import Derived.Laws.Small
import Derived.Laws.Tables
import Derived.Laws.MakeOwn
import Derived.Laws.BytesString
import Derived.Lib.ConvBytes
import Derived.Laws.Cover3
set_option linter.all false
noncomputable section
section
namespace Go.Am
inductive Ty where
 | int (k:IntKind)
 | bool
 | str
 | fn
 | slice (e:Ty)
 | pair (a b:Ty)
 | unit
 deriving DecidableEq,Repr
@[reducible] def Ty.den:Ty → Type
 | .int _=>Int
 | .bool=>Bool
 | .str=>ByteArray
 | .fn=>Option Nat
 | .slice e=>List e.den
 | .pair a b=>a.den × b.den
 | .unit=>Unit
def Ty.dflt:(t:Ty) → t.den
 | .int _=>(0:Int)
 | .bool=>false
 | .str=>ByteArray.empty
 | .fn=>(none:Option Nat)
 | .slice _=>[]
 | .pair a b=>(a.dflt,b.dflt)
 | .unit=>()
def Ty.flat:Ty → Bool
 | .pair _ _ | .unit=>false
 | _=>true
def Ty.width:Ty → Nat
 | .pair a b=>a.width + b.width
 | .unit=>0
 | _=>1
structure Leaf where
 t:Ty
 x:t.den
def leaves:(t:Ty) → t.den → List Leaf
 | .int k,x=>[⟨.int k,x⟩]
 | .bool,x=>[⟨.bool,x⟩]
 | .str,x=>[⟨.str,x⟩]
 | .fn,x=>[⟨.fn,x⟩]
 | .slice e,x=>[⟨.slice e,x⟩]
 | .pair a b,x=>leaves a x.1 ++ leaves b x.2
 | .unit,_=>[]
def cast? (t t':Ty) (x:t.den):Option t'.den :=
 if h:t = t' then some (h ▸ x) else none
def flatL (e:Ty):List e.den → List Leaf
 | []=>[]
 | x :: l=>leaves e x ++ flatL e l
@[reducible] def Args:List Ty → Type
 | []=>Unit
 | t :: ts=>t.den × Args ts
inductive Sc where
 | lf (t:Ty) (x:t.den)
 | nilS
 | capd (e:Ty) (l:List e.den)
 | own (id ver:Nat)
 | ptr (id off:Nat)
 | eptr (id ver i off:Nat)
 | rptr (ls:List Leaf)
 | clo (f:Nat) (first captured:List (Nat × Nat))
 | nilI
 | junk
inductive A1 where
 | sc (s:Sc)
 | agg (l:List Sc)
inductive AV where
 | one (a:A1)
 | tup (l:List A1)
inductive Blk where
 | free
 | cells (l:List Sc)
 | row (e:Ty) (excl:Bool) (ver:Nat) (l:List e.den)
abbrev AV.sc (s:Sc):AV:=.one (.sc s)
abbrev AV.agg (l:List Sc):AV:=.one (.agg l)
abbrev AV.junk:AV:=.one (.sc .junk)
abbrev AV.bool (b:Bool):AV:=.one (.sc (.lf .bool b))
abbrev AV.int (k:IntKind) (n:Int):AV:=.one (.sc (.lf (.int k) n))
structure St where
 tmps:List AV
 heap:List Blk
 hb:Nat
def St.put (s:St) (d:Option Tmp) (v:AV):St :=
 match d with
 | some d=>{ s with tmps:=s.tmps.set d v }
 | none=>s
def E3 (h:List Blk):List (Nat × Blk) → List Blk
 | []=>h
 | (i,b) :: r=>E3 (h.set i b) r
def St.write (s:St) (ws:List (Nat × Blk)):St:={ s with heap:=E3 s.heap ws }
inductive TD where
 | int (k:IntKind) | bool | str | fn | ptr
 | slice (e:TypeId)
 | struct (fs:List (Nat × TypeId))
 | array (n:Nat) (e:TypeId)
 | iface
 | other
 deriving DecidableEq,Repr
structure TI where
 td:TD
 size:Nat
 bytes:Nat
 ty:Ty
 hasTy:Bool
 zero:Value
def TD.isAgg:TD → Bool
 | .struct _ | .array _ _=>true
 | _=>false
structure Sig where
 args:List Ty
 res:List Ty
 fresh:Bool
 dom:Args args → Bool
 val:Args args → Args res
structure Ann where
 keep:Option (List Nat)
 adopt:List (Nat × Option Nat × Ty)
 pack:List (Nat × Ty)
 out:Option (List Nat)
inductive Tree (α:Type) where
 | ret (a:α)
 | fail
 | ite (c:Bool) (x y:Tree α)
def Tree.run {α R:Type}:Tree α → (α → Option R) → Option R
 | .ret a,k=>k a
 | .fail,_=>none
 | .ite c x y,k=>bif c then x.run k else y.run k
def Tree.ofOpt {α:Type}:Option α → Tree α
 | some a=>.ret a
 | none=>.fail
def Tree.when {α:Type} (c:Bool) (x:Tree α):Tree α:=.ite c x .fail
structure Eff where
 v:AV
 ws:List (Nat × Blk)
abbrev TE:=Tree Eff
def val (v:AV):TE:=.ret ⟨v,[]⟩
def lim:Nat:=1099511627776
def scOf:Value → Sc
 | .int k n=>.lf (.int k) n
 | .bool b=>.lf .bool b
 | .string s=>.lf .str s
 | .nilFunc=>.lf .fn none
 | .func (.func f) a b=>if a.size = 0 ∧ b.size = 0 then .lf .fn (some f) else .junk
 | .slice none n c=>if n = 0 ∧ c = 0 then .nilS else .junk
 | .nilIface=>.nilI
 | _=>.junk
def avOf:Value → AV
 | .agg cs=>.one (.agg (cs.toList.map scOf))
 | v=>.one (.sc (scOf v))
def leafSc (l:Leaf):Sc:=.lf l.t l.x
def fz (H:List Blk) (t:Ty):Sc → Option t.den
 | .lf t' x=>cast? t' t x
 | .nilS=>match t with
  | .slice _=>some []
  | _=>none
 | .capd e l=>cast? (.slice e) t l
 | .own id ver=>match H[id]? with
  | some (.row e _ vr l)=>if vr = ver then cast? (.slice e) t l else none
  | _=>none
 | _=>none
def fzs (H:List Blk):(t:Ty) → List Sc → Option (t.den × List Sc)
 | .pair a b,ls =>
  match fzs H a ls with
  | some (x,r)=>match fzs H b r with
   | some (y,r')=>some ((x,y),r')
   | none=>none
  | none=>none
 | .unit,ls=>some ((),ls)
 | .int k,s :: r=>match fz H (.int k) s with | some x=>some (x,r) | none=>none
 | .bool,s :: r=>match fz H .bool s with | some x=>some (x,r) | none=>none
 | .str,s :: r=>match fz H .str s with | some x=>some (x,r) | none=>none
 | .fn,s :: r=>match fz H .fn s with | some x=>some (x,r) | none=>none
 | .slice e,s :: r=>match fz H (.slice e) s with | some x=>some (x,r) | none=>none
 | .int _,[]=>none
 | .bool,[]=>none
 | .str,[]=>none
 | .fn,[]=>none
 | .slice _,[]=>none
def A1.cells:A1 → List Sc
 | .sc s=>[s]
 | .agg l=>l
def A1.isAgg:A1 → Bool
 | .sc _=>false
 | .agg _=>true
def fzA (H:List Blk) (t:Ty) (a:A1):Option t.den :=
 if a.isAgg = t.flat then none else
 match fzs H t a.cells with
 | some (x,[])=>some x
 | _=>none
def fzArgs (H:List Blk):(ts:List Ty) → List AV → Option (Args ts)
 | [],[]=>some ()
 | t :: ts,.one a :: r=>match fzA H t a with
  | some x=>match fzArgs H ts r with
   | some y=>some (x,y)
   | none=>none
  | none=>none
 | _,_=>none
def toA (t:Ty) (x:t.den):A1 :=
 match t.flat with
 | true=>.sc (.lf t x)
 | false=>.agg ((leaves t x).map leafSc)
def toAs:(ts:List Ty) → Args ts → List A1
 | [],_=>[]
 | t :: ts,x=>toA t x.1 :: toAs ts x.2
def avRes (ts:List Ty) (x:Args ts):AV :=
 match toAs ts x with
 | [a]=>.one a
 | l=>.tup l
def Sc.rows:Sc → List Nat
 | .own id _=>[id]
 | _=>[]
def A1.rows:A1 → List Nat
 | .sc s=>s.rows
 | .agg l=>l.flatMap Sc.rows
def Sc.ids:Sc → List Nat
 | .own id _=>[id]
 | .ptr id _=>[id]
 | .eptr id _ _ _=>[id]
 | .clo _ f c=>f.map (·.1) ++ c.map (·.1)
 | _=>[]
def AV.rids:AV → List Nat
 | .one (.sc (.own id _))=>[id]
 | .one (.sc (.eptr id _ _ _))=>[id]
 | _=>[]
def A1.ids:A1 → List Nat
 | .sc s=>s.ids
 | .agg l=>l.flatMap Sc.ids
def AV.ids:AV → List Nat
 | .one a=>a.ids
 | .tup l=>l.flatMap A1.ids
def shown (H:List Blk):List Nat → List (Nat × Blk)
 | []=>[]
 | id :: r=>match H[id]? with
  | some (.row e _ vr l)=>(id,.row e false vr l) :: shown H r
  | _=>shown H r
def intOp (op:BinOp) (k:IntKind) (x y:Int):TE :=
 match op with
 | .add=>val (.int k (k.wrap (x + y)))
 | .sub=>val (.int k (k.wrap (x - y)))
 | .mul=>val (.int k (k.wrap (x * y)))
 | .quo=>.when (!(decide (y = 0))) (val (.int k (k.wrap (x.tdiv y))))
 | .rem=>.when (!(decide (y = 0))) (val (.int k (x.tmod y)))
 | .and=>val (.int k (k.wrap (BitVec.ofInt k.bits x &&& BitVec.ofInt k.bits y).toNat))
 | .or=>val (.int k (k.wrap (BitVec.ofInt k.bits x ||| BitVec.ofInt k.bits y).toNat))
 | .xor=>val (.int k (k.wrap (BitVec.ofInt k.bits x ^^^ BitVec.ofInt k.bits y).toNat))
 | .andNot=>val (.int k (k.wrap (BitVec.ofInt k.bits x &&& ~~~(BitVec.ofInt k.bits y)).toNat))
 | .eql=>val (.bool (x == y))
 | .neq=>val (.bool (x != y))
 | .lss=>val (.bool (decide (x < y)))
 | .leq=>val (.bool (decide (x ≤ y)))
 | .gtr=>val (.bool (decide (x > y)))
 | .geq=>val (.bool (decide (x ≥ y)))
 | _=>.fail
def shiftOp (op:BinOp) (k:IntKind) (x y:Int):TE :=
 match op with
 | .shl=>.when (decide (0 ≤ y)) (val (.int k (k.wrap (x * 2 ^ (min y.toNat k.bits)))))
 | .shr=>.when (decide (0 ≤ y)) (val (.int k (x.fdiv (2 ^ (min y.toNat k.bits)))))
 | _=>.fail
def strOp (op:BinOp) (x y:ByteArray):TE :=
 match op with
 | .add=>.when (decide (x.size + y.size ≤ lim)) (val (.sc (.lf .str (x ++ y))))
 | .eql=>val (.bool (x.toList == y.toList))
 | .neq=>val (.bool (!(x.toList == y.toList)))
 | _=>.fail
def eqCells:List Sc → List Sc → Option Bool
 | [],[]=>some true
 | .lf (.int k) a :: r,.lf (.int k') b :: r' =>
  if k = k' then match eqCells r r' with
   | some c=>some ((a == b) && c)
   | none=>none
  else none
 | .lf .bool a :: r,.lf .bool b :: r' =>
  match eqCells r r' with
   | some c=>some ((a == b) && c)
   | none=>none
 | _,_=>none
def binOpA (T:TypeId → Option TI) (op:BinOp) (t:TypeId) (x y:AV):TE :=
 match x,y with
 | .one (.sc (.lf (.int k) a)),.one (.sc (.lf (.int k') b)) =>
  match op with
  | .shl | .shr=>shiftOp op k a b
  | _=>if k = k' then intOp op k a b else .fail
 | .one (.sc (.lf .str a)),.one (.sc (.lf .str b))=>strOp op a b
 | .one (.sc (.lf .bool a)),.one (.sc (.lf .bool b)) =>
  match T t with
  | some ti=>match ti.td,op with
   | .bool,.eql=>val (.bool (a == b))
   | .bool,.neq=>val (.bool (!(a == b)))
   | _,_=>.fail
  | none=>.fail
 | _,_=>.fail
def unOpA (op:UnOp) (x:AV):TE :=
 match op,x with
 | .neg,.one (.sc (.lf (.int k) n))=>val (.int k (k.wrap (0 - n)))
 | .not,.one (.sc (.lf .bool b))=>val (.bool (!b))
 | _,_=>.fail
def bytesOf (l:List Int):ByteArray:=⟨(l.map fun n=>UInt8.ofNat n.toNat).toArray⟩
def ofBytes (s:ByteArray):List Int:=s.data.toList.map fun b=>(b.toNat:Int)
def convA (T:TypeId → Option TI) (H:List Blk) (src dst:TypeId) (x:AV):TE :=
 match T src,T dst with
 | some ts,some td =>
  match td.td,x with
  | .int k,.one (.sc (.lf (.int _) n))=>val (.int k (k.wrap n))
  | .str,.one (.sc (.lf .str s))=>val (.sc (.lf .str s))
  | .str,.one (.sc s) =>
   match ts.td with
   | .slice e=>match T e with
    | some te=>match te.td with
     | .int .u8=>match fz H (.slice (.int .u8)) s with
      | some l=>.ret ⟨.sc (.lf .str (bytesOf l)),shown H s.rows⟩
      | none=>.fail
     | _=>.fail
    | none=>.fail
   | _=>.fail
  | .slice e,.one (.sc (.lf .str s)) =>
   match T e with
   | some te=>match te.td with
    | .int .u8=>val (.sc (.lf (.slice (.int .u8)) (ofBytes s)))
    | _=>.fail
   | none=>.fail
  | _,_=>.fail
 | _,_=>.fail
def Sc.storable:Sc → Bool
 | .junk=>false
 | _=>true
def A1.whole:A1 → Bool
 | .sc s=>s.storable
 | .agg _=>true
def place (cs:List Sc) (off:Nat):List Sc → List Sc
 | []=>cs
 | s :: r=>place (cs.set off s) (off + 1) r
def fillA (loc:Nat → Option (Nat × Nat)) (cs:List Sc):List (Nat × AV) → Option (List Sc)
 | []=>some cs
 | (i,.one a) :: r =>
  match loc i with
  | some (off,size)=>if a.whole ∧ a.cells.length = size ∧ off + size ≤ cs.length then fillA loc (place cs off a.cells) r else none
  | none=>none
 | (_,.tup _) :: _=>none
def zeroCells (ti:TI):List Sc:=ti.zero.cells.toList.map scOf
def locOf (T:TypeId → Option TI) (fs:List (Nat × TypeId)) (i:Nat):Option (Nat × Nat) :=
 match fs[i]? with
 | some (off,t)=>match T t with
  | some ti=>some (off,ti.size)
  | none=>none
 | none=>none
def buildA (T:TypeId → Option TI) (t:TypeId) (parts:List (Nat × AV)):TE :=
 match T t with
 | some ti=>match ti.td with
  | .struct fs=>if !(fs.all fun p=>(T p.2).isSome) then .fail else match fillA (locOf T fs) (zeroCells ti) parts with
   | some l=>val (.agg l)
   | none=>.fail
  | .array _ e=>match T e with
   | some te=>match fillA (fun i=>some (i * te.size,te.size)) (zeroCells ti) parts with
    | some l=>val (.agg l)
    | none=>.fail
   | none=>.fail
  | _=>.fail
 | none=>.fail
def rowOf (H:List Blk) (e:Ty) (z:e.den):(n:Nat) → (k:Nat) → List (Nat × AV) → Option (List e.den)
 | 0,_,[]=>some []
 | 0,_,_ :: _=>none
 | n + 1,k,(i,.one a) :: r =>
  if i = k then
   match fzA H e a with
   | some x=>match rowOf H e z n (k + 1) r with
    | some l=>some (x :: l)
    | none=>none
   | none=>none
  else match rowOf H e z n (k + 1) ((i,.one a) :: r) with
   | some l=>some (z :: l)
   | none=>none
 | n + 1,k,[]=>match rowOf H e z n (k + 1) [] with
   | some l=>some (z :: l)
   | none=>none
 | _ + 1,_,(_,.tup _) :: _=>none
def a88:List (Nat × AV) → List Nat
 | []=>[]
 | (_,.one a) :: r=>a.rows ++ a88 r
 | (_,.tup _) :: r=>a88 r
def w28 (T:TypeId → Option TI) (H:List Blk) (nid:Nat) (t:TypeId) (len:Nat) (parts:List (Nat × AV)):TE :=
 match T t with
 | some ti=>match ti.td with
  | .slice e=>match T e with
   | some te =>
    if te.hasTy ∧ len * te.size ≤ 16777216 then
     match rowOf H te.ty te.ty.dflt len 0 parts with
     | some l=>.ret ⟨.sc (.own nid 0),shown H (a88 parts) ++ [(nid,.row te.ty true 0 l)]⟩
     | none=>.fail
    else .fail
   | none=>.fail
  | _=>.fail
 | none=>.fail
def readA (ti:TI) (l:List Sc) (off:Nat):TE :=
 match ti.td.isAgg with
 | true=>if off + ti.size ≤ l.length then val (.agg ((l.drop off).take ti.size)) else .fail
 | false=>match l[off]? with
  | some s=>val (.sc s)
  | none=>.fail
def loadA (T:TypeId → Option TI) (H:List Blk) (t:TypeId) (a:AV):TE :=
 match T t,a with
 | some ti,.one (.sc (.ptr id off))=>match H[id]? with
  | some (.cells l)=>readA ti l off
  | _=>.fail
 | some ti,.one (.sc (.rptr ls))=>readA ti (ls.map leafSc) 0
 | some ti,.one (.sc (.eptr id ver i off))=>match H[id]? with
  | some (.row e _ vr l)=>if vr = ver then .when (decide (i < l.length)) (readA ti ((leaves e (l.getD i e.dflt)).map leafSc) off) else .fail
  | _=>.fail
 | _,_=>.fail
def storeA (T:TypeId → Option TI) (H:List Blk) (t:TypeId) (a x:AV):TE :=
 match T t,a,x with
 | some ti,.one (.sc (.ptr id off)),.one x=>match H[id]? with
  | some (.cells l) =>
   if x.cells.length = ti.size ∧ off + ti.size ≤ l.length ∧ x.cells.all Sc.storable then .ret ⟨.junk,[(id,.cells (place l off x.cells))]⟩ else .fail
  | _=>.fail
 | some ti,.one (.sc (.eptr id ver i off)),.one x=>match H[id]? with
  | some (.row e true vr l) =>
   if vr = ver ∧ x.cells.length = ti.size ∧ off + ti.size ≤ e.width ∧ x.cells.all Sc.storable ∧ ¬ (x.rows.contains id) then
    .when (decide (i < l.length))
     (match fzs H e (place ((leaves e (l.getD i e.dflt)).map leafSc) off x.cells) with
     | some (y,[])=>.ret ⟨.junk,shown H (x.rows) ++ [(id,.row e true vr (l.set i y))]⟩
     | _=>.fail)
   else .fail
  | _=>.fail
 | _,_,_=>.fail
def w42 (T:TypeId → Option TI) (H:List Blk) (s:TypeId) (x:AV) (f:Nat):TE :=
 match T s with
 | some ti=>match ti.td with
  | .struct fs=>match fs[f]? with
   | some (off,ft)=>match T ft with
    | some tf=>if tf.size = 0 then .fail else match x with
     | .one (.sc (.ptr id o))=>val (.sc (.ptr id (o + off)))
     | .one (.sc (.eptr id ver i o))=>match H[id]? with
      | some (.row _ _ vr _)=>if vr = ver then val (.sc (.eptr id ver i (o + off))) else .fail
      | _=>.fail
     | .one (.sc (.rptr ls))=>val (.sc (.rptr (ls.drop off)))
     | _=>.fail
    | none=>.fail
   | none=>.fail
  | _=>.fail
 | none=>.fail
def intAV:AV → Option Int
 | .one (.sc (.lf (.int _) n))=>some n
 | _=>none
def pickN (i:Int) (f:Nat → TE):Nat → Nat → TE
 | 0,_=>.fail
 | c + 1,j=>.ite (i == (j:Int)) (f j) (pickN i f c (j + 1))
def pickOf (i:Int) (n:Nat) (f:Nat → TE):TE:=if n ≤ 16 then pickN i f n 0 else f i.toNat
def w40 (T:TypeId → Option TI) (H:List Blk) (t:TypeId) (x ix:AV):TE :=
 match T t,intAV ix with
 | some ti,some i=>match ti.td,x with
  | .slice el,.one (.sc (.lf (.slice e) l))=>match T el with
   | some te=>if te.hasTy = true ∧ e = te.ty then .when (decide (0 ≤ i) && decide (i < List.length l)) (val (.sc (.rptr (leaves e (List.getD l i.toNat e.dflt))))) else .fail
   | none=>.fail
  | .slice el,.one (.sc (.own id ver))=>match T el with
   | some te=>match H[id]? with
    | some (.row e _ vr l)=>if vr = ver ∧ te.hasTy = true ∧ e = te.ty then .when (decide (0 ≤ i) && decide (i < l.length)) (val (.sc (.eptr id ver i.toNat 0))) else .fail
    | _=>.fail
   | none=>.fail
  | .array n e,.one (.sc (.ptr id off))=>match T e with
   | some te=>.when (decide (0 ≤ i) && decide (i < n)) (pickOf i n fun j=>val (.sc (.ptr id (off + j * te.size))))
   | none=>.fail
  | .array n el,.one (.sc (.eptr id ver 0 0))=>match T el with
   | some te=>match H[id]? with
    | some (.row e _ vr _)=>if vr = ver ∧ te.hasTy = true ∧ e = te.ty then .when (decide (0 ≤ i) && decide (i < n)) (val (.sc (.eptr id ver i.toNat 0))) else .fail
    | _=>.fail
   | none=>.fail
  | _,_=>.fail
 | _,_=>.fail
def fieldA (T:TypeId → Option TI) (t:TypeId) (x:AV) (f:Nat):TE :=
 match T t,x with
 | some ti,.one (.agg l)=>match ti.td with
  | .struct fs=>match fs[f]? with
   | some (off,ft)=>match T ft with
    | some tf=>readA tf l off
    | none=>.fail
   | none=>.fail
  | _=>.fail
 | _,_=>.fail
def indexA (T:TypeId → Option TI) (t:TypeId) (x ix:AV):TE :=
 match T t,intAV ix with
 | some ti,some i=>match ti.td,x with
  | .array n e,.one (.agg l)=>match T e with
   | some te=>.when (decide (0 ≤ i) && decide (i < n)) (pickOf i n fun j=>readA te l (j * te.size))
   | none=>.fail
  | .str,.one (.sc (.lf .str s))=>.when (decide (0 ≤ i) && decide (i < s.size)) (val (.int .u8 (s.data.toList.getD i.toNat 0).toNat))
  | _,_=>.fail
 | _,_=>.fail
def bnd:Option AV → Option (Option Int)
 | none=>some none
 | some v=>match intAV v with
  | some i=>some (some i)
  | none=>none
def cutL (ws:List (Nat × Blk)) (e:Ty) (l:List e.den) (lo hi mx:Option Int):TE :=
 match mx with
 | none=>.when (decide (0 ≤ lo.getD 0) && decide (lo.getD 0 ≤ hi.getD l.length) && decide (hi.getD l.length ≤ l.length))
   (.ret ⟨.sc (.lf (.slice e) ((l.take (hi.getD l.length).toNat).drop (lo.getD 0).toNat)),ws⟩)
 | some m=>match hi with
  | none=>.fail
  | some h=>.when (decide (0 ≤ lo.getD 0) && decide (lo.getD 0 ≤ h) && decide (h ≤ m) && decide (m ≤ l.length))
   (.ite (decide (h = m)) (.ret ⟨.sc (.capd e ((l.take h.toNat).drop (lo.getD 0).toNat)),ws⟩) (.ret ⟨.sc (.lf (.slice e) ((l.take h.toNat).drop (lo.getD 0).toNat)),ws⟩))
def sliceA (T:TypeId → Option TI) (H:List Blk) (t:TypeId) (x:AV) (lo hi mx:Option AV):TE :=
 match T t,bnd lo,bnd hi,bnd mx with
 | some ti,some lo,some hi,some mx=>match ti.td,x with
  | .slice el,.one (.sc s)=>match T el with
   | some te=>match te.hasTy,fz H (.slice te.ty) s with
    | true,some l=>cutL (shown H s.rows) te.ty l lo hi mx
    | _,_=>.fail
   | none=>.fail
  | .array n el,.one (.sc (.eptr id ver 0 0))=>match T el with
   | some te=>match H[id]? with
    | some (.row e _ vr l)=>if vr = ver ∧ te.hasTy = true ∧ e = te.ty then (match mx with
     | none=>.when (decide (l.length = n)) (cutL (shown H [id]) e l lo hi none)
     | some _=>.fail) else .fail
    | _=>.fail
   | none=>.fail
  | .str,.one (.sc (.lf .str s)) =>
   match mx with
   | some _=>.fail
   | none=>.when (decide (0 ≤ lo.getD 0) && decide (lo.getD 0 ≤ hi.getD s.size) && decide (hi.getD s.size ≤ s.size)) (val (.sc (.lf .str (s.extract (lo.getD 0).toNat (hi.getD s.size).toNat))))
  | _,_=>.fail
 | _,_,_,_=>.fail
def extractA (x:AV) (i:Nat):TE :=
 match x with
 | .tup l=>match l[i]? with
  | some a=>val (.one a)
  | none=>.fail
 | _=>.fail
def B70 (T:TypeId → Option TI) (nid:Nat) (t:TypeId) (len cap:AV):TE :=
 match T t,intAV len,intAV cap with
 | some ti,some n,some c=>match ti.td with
  | .slice e=>match T e with
   | some te=>if te.hasTy then
     .when (decide (0 ≤ n) && decide (n ≤ c) && decide (c * te.bytes ≤ 140737488355328) && decide (c ≤ lim))
      (.ret ⟨.sc (.own nid 0),[(nid,.row te.ty true 0 (List.replicate n.toNat te.ty.dflt))]⟩)
    else .fail
   | none=>.fail
  | _=>.fail
 | _,_,_=>.fail
def ptrsOf:List AV → Option (List (Nat × Nat))
 | []=>some []
 | .one (.sc (.ptr id off)) :: r=>match ptrsOf r with
  | some l=>some ((id,off) :: l)
  | none=>none
 | _ :: _=>none
def C16 (fn:Fn) (first captured:List AV):TE :=
 match fn with
 | .func f=>match first,captured with
  | [],[]=>val (.sc (.lf .fn (some f)))
  | _,_=>match ptrsOf first,ptrsOf captured with
   | some a,some b=>val (.sc (.clo f a b))
   | _,_=>.fail
 | _=>.fail
def lenA (H:List Blk) (td:TD) (x:AV):TE :=
 match td,x with
 | .str,.one (.sc (.lf .str s))=>val (.int .i64 s.size)
 | .array n _,_=>val (.int .i64 n)
 | .slice _,.one (.sc (.lf (.slice _) l))=>val (.int .i64 l.length)
 | .slice _,.one (.sc .nilS)=>val (.int .i64 0)
 | .slice _,.one (.sc (.capd _ l))=>val (.int .i64 l.length)
 | .slice _,.one (.sc (.own id ver))=>match H[id]? with
  | some (.row _ _ vr l)=>if vr = ver then val (.int .i64 l.length) else .fail
  | _=>.fail
 | _,_=>.fail
def srcOf (H:List Blk) (e:Ty) (s:Sc):Option (List e.den):=fz H (.slice e) s
def appendA (T:TypeId → Option TI) (H:List Blk) (nid:Nat) (t t':TypeId) (x y:AV):TE :=
 match T t,T t',x,y with
 | some ti,some ti',.one (.sc s),.one (.sc u)=>match ti.td,ti'.td with
  | .slice e,.slice e'=>match T e with
   | some te=>if te.hasTy ∧ e = e' then
     match srcOf H te.ty u with
     | some m =>
      let m':List te.ty.den:=m
      match s with
      | .nilS=>.when (decide (m'.length * te.bytes ≤ 140737488355328) && decide (m'.length ≤ lim)) (.ret ⟨.sc (.own nid 0),shown H u.rows ++ [(nid,.row te.ty true 0 m')]⟩)
      | .capd e2 l=>match cast? (.slice e2) (.slice te.ty) l with
       | some l =>
        let l':List te.ty.den:=l
        .when (decide ((l'.length + m'.length) * te.bytes ≤ 140737488355328) && decide (l'.length + m'.length ≤ lim) && (decide (0 < m'.length) || decide (l'.length = 0))) (.ret ⟨.sc (.own nid 0),shown H u.rows ++ [(nid,.row te.ty true 0 (l' ++ m'))]⟩)
       | none=>.fail
      | .own id ver=>match H[id]? with
       | some (.row e2 ex vr l)=>if vr = ver ∧ ¬ (u.rows.contains id) then
         match cast? (.slice e2) (.slice te.ty) l with
         | some l =>
          let l':List te.ty.den:=l
          .when (decide ((l'.length + m'.length) * te.bytes ≤ 140737488355328) && decide (l'.length + m'.length ≤ lim)) (.ret ⟨.sc (.own id (ver + 1)),shown H u.rows ++ [(id,.row te.ty ex (vr + 1) (l' ++ m'))]⟩)
         | none=>.fail
        else .fail
       | _=>.fail
      | _=>.fail
     | none=>.fail
    else .fail
   | none=>.fail
  | _,_=>.fail
 | _,_,_,_=>.fail
def minmaxA (isMax:Bool):List AV → TE
 | []=>.fail
 | x :: r=>match intsOf (x :: r) with
  | some (k,a :: l)=>val (.int k (l.foldl (fun x y=>if isMax then (if y > x then y else x) else (if y < x then y else x)) a))
  | _=>.fail
 where
 intsOf:List AV → Option (IntKind × List Int)
  | []=>none
  | [.one (.sc (.lf (.int k) n))]=>some (k,[n])
  | .one (.sc (.lf (.int k) n)) :: r=>match intsOf r with
   | some (k',l)=>if k = k' then some (k,n :: l) else none
   | none=>none
  | _ :: _=>none
def argRows:List AV → List Nat
 | []=>[]
 | .one a :: r=>a.rows ++ argRows r
 | .tup _ :: r=>argRows r
def sigA (H:List Blk) (nid:Nat) (sg:Sig) (args:List AV):TE :=
 match fzArgs H sg.args args with
 | some x=>.when (sg.dom x)
   (match sg.fresh with
   | false=>.ret ⟨avRes sg.res (sg.val x),shown H (argRows args)⟩
   | true=>match toAs sg.res (sg.val x) with
    | [.sc (.lf (.slice e) l)]=>.ret ⟨.sc (.own nid 0),shown H (argRows args) ++ [(nid,.row e true 0 l)]⟩
    | _=>.fail)
 | none=>.fail
def evalO (tm:List AV):Operand → AV
 | .tmp t=>tm.getD t .junk
 | .const v=>avOf v
 | .global _=>.junk
 | .func f=>.sc (.lf .fn (some f))
def target:AV → Option (Nat × List AV × List AV)
 | .one (.sc (.lf .fn (some f)))=>some (f,[],[])
 | .one (.sc (.clo f a b))=>some (f,a.map fun p=>.sc (.ptr p.1 p.2),b.map fun p=>.sc (.ptr p.1 p.2))
 | _=>none
def fnsA (x:Option Nat) (f:Nat → TE):List FuncId → TE
 | []=>.fail
 | K :: r=>.ite (x == some K) (f K) (fnsA x f r)
structure Prim where
 f:List Blk → Nat → List AV → TE
 loc:∀ (H H':List Blk) (nid:Nat) (as:List AV),(∀ id ∈ as.flatMap AV.ids,H[id]? = H'[id]?) → f H nid as = f H' nid as
structure Glob where
 e:Ty
 l:List e.den
structure Env where
 T:TypeId → Option TI
 sig:FuncId → Option Sig
 inl:FuncId → Option Func
 ann:Nat → Ann
 fns:List FuncId
 prim:FuncId → Option Prim
 glob:Nat → Option Glob
def B57 (E:Env) (t:TypeId) (g:Nat) (ix:AV):TE :=
 match E.T t,E.glob g,intAV ix with
 | some ti,some G,some i=>match ti.td with
  | .array n el=>match E.T el with
   | some te=>match cast? (.slice G.e) (.slice te.ty) G.l with
    | some l =>
     let l':List te.ty.den:=l
     if te.hasTy = true ∧ l'.length = n then .when (decide (0 ≤ i) && decide (i < n)) (val (.sc (.rptr (leaves te.ty (List.getD l' i.toNat te.ty.dflt))))) else .fail
    | none=>.fail
   | none=>.fail
  | _=>.fail
 | _,_,_=>.fail
def C02 (E:Env) (t:TypeId) (g:Nat):TE :=
 match E.T t,E.glob g with
 | some ti,some G=>match G.l with
  | [x]=>readA ti ((leaves G.e x).map leafSc) 0
  | _=>.fail
 | _,_=>.fail
def nilEqA (T:TypeId → Option TI) (op:BinOp) (t:TypeId) (lit:Bool):TE :=
 match T t with
 | some ti=>match ti.td,lit,op with
  | .iface,true,.eql=>val (.bool true)
  | .iface,true,.neq=>val (.bool false)
  | _,_,_=>.fail
 | none=>.fail
def w82 (T:TypeId → Option TI) (H:List Blk) (s id ver:Nat):TE :=
 match T s with
 | some ti=>match ti.td with
  | .slice e=>match T e with
   | some te=>if te.td = .int .u8 then
     match H[id]? with
     | some (.row e2 _ vr l)=>if vr = ver then
       match cast? (.slice e2) (.slice (.int .u8)) l with
       | some l =>
        let l':List Int:=l
        .when (decide (0 < l'.length)) (.ret ⟨.sc (.lf (.slice (.int .u8)) (show List Int from l')),shown H [id] ++ [(id,.row (.int .u8) false (vr + 1) (show List Int from []))]⟩)
       | none=>.fail
      else .fail
     | _=>.fail
    else .fail
   | none=>.fail
  | _=>.fail
 | none=>.fail
def nilCmpA (T:TypeId → Option TI) (op:BinOp) (t:TypeId) (n:Nat):TE :=
 match T t with
 | some ti=>match ti.td,op with
  | .slice _,.eql=>.when (decide (0 < n)) (val (.bool false))
  | .slice _,.neq=>.when (decide (0 < n)) (val (.bool true))
  | _,_=>.fail
 | none=>.fail
def isConst:Operand → Bool
 | .const _=>true
 | _=>false
def allocA (T:TypeId → Option TI) (nid:Nat) (t:TypeId):TE :=
 match T t with
 | some ti=>match ti.td with
  | .array n e=>match T e with
   | some te=>if 16 < n ∧ te.hasTy = true then .ret ⟨.sc (.eptr nid 0 0 0),[(nid,.row te.ty true 0 (List.replicate n te.ty.dflt))]⟩ else .ret ⟨.sc (.ptr nid 0),[(nid,.cells (zeroCells ti))]⟩
   | none=>.ret ⟨.sc (.ptr nid 0),[(nid,.cells (zeroCells ti))]⟩
  | _=>.ret ⟨.sc (.ptr nid 0),[(nid,.cells (zeroCells ti))]⟩
 | none=>.fail
def toldA (E:Env) (H:List Blk) (nid:Nat) (args:List AV):Option (Nat × List AV × List AV) → TE
 | some (K,a,b)=>match E.prim K with
  | some p=>p.f H nid (a ++ args ++ b)
  | none=>match E.sig K with
   | some sg=>sigA H nid sg (a ++ args ++ b)
   | none=>.fail
 | none=>.fail
def callA (E:Env) (H:List Blk) (nid:Nat) (ev:Operand → AV) (c:Call):TE :=
 let args:=c.args.toList.map ev
 match c.callee with
 | .builtin .len=>match c.argTypes[0]?,args with
  | some t,[x]=>match E.T t with
   | some ti=>lenA H ti.td x
   | none=>.fail
  | _,_=>.fail
 | .builtin .append=>match c.argTypes[0]?,c.argTypes[1]?,args with
  | some t,some t',[x,y]=>appendA E.T H nid t t' x y
  | _,_,_=>.fail
 | .builtin .max=>minmaxA true args
 | .builtin .min=>minmaxA false args
 | .value f=>match f with
  | .func _=>toldA E H nid args (target (ev f))
  | _=>match ev f with
   | .one (.sc (.lf .fn x))=>fnsA x (fun K=>toldA E H nid args (some (K,[],[]))) E.fns
   | v=>toldA E H nid args (target v)
 | _=>.fail
def opA (E:Env) (H:List Blk) (nid:Nat) (ev:Operand → AV):Op → TE
 | .move x | .assign x=>val (ev x)
 | .pick c a b=>match ev c with
  | .one (.sc (.lf .bool t))=>.ite t (val (ev a)) (val (ev b))
  | _=>.fail
 | .alloc t=>allocA E.T nid t
 | .box _ x=>match ev x with
  | .one a=>if a.whole then .ret ⟨.sc (.ptr nid 0),[(nid,.cells a.cells)]⟩ else .fail
  | .tup _=>.fail
 | .build t ps=>buildA E.T t (ps.toList.map fun p=>(p.1,ev p.2))
 | .buildSlice t n ps=>w28 E.T H nid t n (ps.toList.map fun p=>(p.1,ev p.2))
 | .load t a=>match a with
  | .global g=>C02 E t g
  | a=>loadA E.T H t (ev a)
 | .store t a x=>storeA E.T H t (ev a) (ev x)
 | .nilCheck x=>match ev x with
  | .one (.sc (.ptr id off))=>val (.sc (.ptr id off))
  | .one (.sc (.eptr id ver i off))=>match H[id]? with
   | some (.row _ _ vr _)=>if vr = ver then val (.sc (.eptr id ver i off)) else .fail
   | _=>.fail
  | .one (.sc (.rptr ls))=>val (.sc (.rptr ls))
  | _=>.fail
 | .binOp op t x y _=>match ev x,ev y with
  | .one (.sc .nilI),.one (.sc .nilI)=>nilEqA E.T op t (isConst x || isConst y)
  | .one (.sc (.lf (.slice e) l)),.one (.sc .nilS)=>nilCmpA E.T op t (List.length (α:=e.den) l)
  | a,b=>binOpA E.T op t a b
 | .unOp op _ x=>unOpA op (ev x)
 | .convert s d x=>match ev x with
  | .one (.sc (.own id ver))=>if s = d then w82 E.T H s id ver else convA E.T H s d (.one (.sc (.own id ver)))
  | v=>convA E.T H s d v
 | .makeFunc fn a b=>C16 fn (a.toList.map ev) (b.toList.map ev)
 | .makeSlice t l c=>B70 E.T nid t (ev l) (ev c)
 | .slice t x lo hi mx=>sliceA E.T H t (ev x) (lo.map ev) (hi.map ev) (mx.map ev)
 | .fieldAddr s x f=>w42 E.T H s (ev x) f
 | .field t x f=>fieldA E.T t (ev x) f
 | .indexAddr t x i=>match x with
  | .global g=>B57 E t g (ev i)
  | x=>w40 E.T H t (ev x) (ev i)
 | .index t x i=>indexA E.T t (ev x) (ev i)
 | .extract x i=>extractA (ev x) i
 | .call c=>callA E H nid ev c
 | _=>.fail
def lays:Op → Bool
 | .alloc _ | .box _ _ | .buildSlice .. | .makeSlice .. | .call _=>true
 | _=>false
def a61:Nat → List Oper → List (Oper × Nat)
 | _,[]=>[]
 | n,o :: r=>(o,n) :: a61 (if lays o.op then n + 1 else n) r
def a81:List Oper → Nat
 | []=>0
 | o :: r=>(if lays o.op then 1 else 0) + a81 r
def trimR:List Blk → List Blk
 | .free :: r=>trimR r
 | l=>l
def trim (h:List Blk):List Blk:=(trimR h.reverse).reverse
inductive X where
 | norm
 | ret
 | exit (id:Nat)
inductive Job where
 | code (c:Code)
 | ops (all:Array Oper) (draw:Bool) (l:List (Oper × Nat)) (log:List (Nat × List Nat × List Nat × List Nat × List Nat))
def readsOf (ev:Operand → AV) (op:Op):List Nat :=
 match op with
 | .buildSlice .. | .load .. | .store .. | .convert .. | .slice .. | .call _=>op.operands.toList.flatMap fun x=>(ev x).ids
 | .indexAddr _ x _ | .fieldAddr _ x _ | .nilCheck x=>(ev x).rids
 | _=>[]
def tmpsOf (all:Array Oper) (o:Oper):List Nat:=o.looksAt all
def clash (a b:List Nat × List Nat × List Nat × List Nat):Bool :=
 a.2.1.any (fun i=>b.1.contains i || b.2.1.contains i) || b.2.1.any (fun i=>a.1.contains i) ||
 a.2.2.2.any (fun i=>b.2.2.1.contains i || b.2.2.2.contains i) || b.2.2.2.any (fun i=>a.2.2.1.contains i)
def okW (H:List Blk) (nid:Nat) (op:Op) (ws:List (Nat × Blk)):Bool :=
 ws.all fun p=>if p.1 = nid then lays op && decide (nid < H.length) else match H[p.1]? with
  | some .free=>false
  | none=>false
  | _=>true
def topo:Nat → List Oper → Bool
 | _,[]=>true
 | i,o :: r=>(o.after.all fun e=>!Region.binds .any e || decide (e.on < i)) && topo (i + 1) r
def indep (bf:Array Nat):List (Nat × List Nat × List Nat × List Nat × List Nat) → Bool
 | []=>true
 | (j,f) :: r=>r.all (fun p=>(bf.getD j 0).testBit p.1 || !clash p.2 f) && indep bf r
def St.ev (s:St):Operand → AV:=evalO s.tmps
def St.learn (s:St) (c:Operand) (b:Bool):St :=
 match c with
 | .tmp t=>{ s with tmps:=s.tmps.set t (.bool b) }
 | _=>s
def idsAll (s:St):List Nat :=
 s.tmps.flatMap AV.ids ++ s.heap.flatMap fun
  | .cells l=>l.flatMap Sc.ids
  | _=>[]
def freeOne (s:St) (id:Nat):St :=
 if (idsAll s).contains id then s else { s with heap:=s.heap.set id .free }
def B72 (hb:Nat):Nat → St → St
 | 0,s=>s
 | n + 1,s=>B72 hb n (if hb ≤ n then freeOne s n else s)
def gc (s:St):St:=B72 s.hb s.heap.length s
def B68 (keep:List Nat):Nat → List AV → List AV
 | _,[]=>[]
 | i,v :: r=>(if keep.contains i then v else .junk) :: B68 keep (i + 1) r
def adopt1 (s:St):(Nat × Option Nat × Ty) → St
 | (t,none,e)=>match s.tmps[t]? with
  | some (.one (.sc .nilS))=>{ s with tmps:=s.tmps.set t (.sc (.own s.heap.length 0)),heap:=s.heap ++ [.row e true 0 []] }
  | _=>s
 | (id,some off,e)=>match s.heap[id]? with
  | some (.cells l)=>match l[off]? with
   | some .nilS=>{ s with heap:=s.heap.set id (.cells (l.set off (.own s.heap.length 0))) ++ [.row e true 0 []] }
   | _=>s
  | _=>s
def plain1 (s:St) (id off:Nat) (e:Ty):St :=
 match s.heap[id]? with
 | some (.cells l)=>match l[off]? with
  | some .nilS=>{ s with heap:=s.heap.set id (.cells (l.set off (.lf (.slice e) []))) }
  | _=>s
 | _=>s
def adoptS (s:St) (t:Nat) (e:Ty):St :=
 match s.tmps[t]? with
 | some (.one (.sc .nilS))=>{ s with tmps:=s.tmps.set t (.sc (.own s.heap.length 0)),heap:=s.heap ++ [.row e false 0 []] }
 | _=>s
def adopt2 (s:St):(Nat × Option Nat × Ty) → St
 | (id,some off,.pair e .unit)=>plain1 s id off e
 | (t,none,.pair e .unit)=>adoptS s t e
 | p=>adopt1 s p
def renSc (H:List Blk) (hb:Nat):Sc → Sc
 | .own id ver=>if hb ≤ id then (match H[id]? with
  | some (.row _ _ vr _)=>if vr = ver then .own id 0 else .junk
  | _=>.junk) else .own id ver
 | .eptr id ver i off=>if hb ≤ id then (match H[id]? with
  | some (.row _ _ vr _)=>if vr = ver then .eptr id 0 i off else .junk
  | _=>.junk) else .eptr id ver i off
 | s=>s
def renA1 (H:List Blk) (hb:Nat):A1 → A1
 | .sc s=>.sc (renSc H hb s)
 | .agg l=>.agg (l.map (renSc H hb))
def renAV (H:List Blk) (hb:Nat):AV → AV
 | .one a=>.one (renA1 H hb a)
 | .tup l=>.tup (l.map (renA1 H hb))
def renBlk (H:List Blk) (hb:Nat):Nat → List Blk → List Blk
 | _,[]=>[]
 | i,.cells l :: r=>.cells (l.map (renSc H hb)) :: renBlk H hb (i + 1) r
 | i,.row e x v l :: r=>.row e x (if hb ≤ i then 0 else v) l :: renBlk H hb (i + 1) r
 | i,.free :: r=>.free :: renBlk H hb (i + 1) r
def renum (s:St):St:={ s with tmps:=s.tmps.map (renAV s.heap s.hb),heap:=renBlk s.heap s.hb 0 s.heap }
def trimAt (hb:Nat) (h:List Blk):List Blk:=h.take hb ++ Am.trim (h.drop hb)
def St.trim (s:St):St:={ s with heap:=trimAt s.hb s.heap }
def freesOk (H:List Blk) (l:List (Oper × Nat)):Bool :=
 l.all fun p=>!lays p.1.op || match H[p.2]? with
  | some .free=>true
  | _=>false
def pack1 (s:St) (p:Nat × Ty):St :=
 match s.tmps[p.1]? with
 | some (.one (.sc (.ptr id 0)))=>match s.heap[id]? with
  | some (.cells l)=>match fzs s.heap p.2 l with
   | some (x,r)=>{ s with heap:=(E3 s.heap (shown s.heap (l.flatMap Sc.rows))).set id (.cells ((leaves p.2 x).map leafSc ++ r)) }
   | none=>s
  | _=>s
 | _=>s
def head (a:Ann) (s:St):St :=
 let s:=a.adopt.foldl adopt2 s
 match a.keep with
 | some keep=>(renum (gc (a.pack.foldl pack1 (gc { s with tmps:=B68 keep 0 s.tmps })))).trim
 | none=>s
def O9:Code → Option Nat
 | .region id ops _=>some (id + 1000 * (match ops[0]? with
  | some o=>o.dst.getD 0
  | none=>0))
 | .seq a b=>match O9 a with
  | some i=>some i
  | none=>O9 b
 | .block _ c | .loop c | .scope c=>O9 c
 | _=>none
def loopAnn (E:Env) (c:Code):Ann :=
 match O9 c with
 | some i=>E.ann i
 | none=>⟨none,[],[],none⟩
def tidy (a:Ann) (s:St):St :=
 match a.out with
 | some l=>head ⟨some l,[],a.pack,none⟩ s
 | none=>s
def res1 (E:Env) (s:St):ResultVar → Option A1
 | .tmp t=>match s.tmps[t]? with
  | some (.one a)=>some a
  | _=>none
 | .cell a t=>match s.tmps[a]? with
  | some (.one (.sc (.ptr id off)))=>match loadA E.T s.heap t (.sc (.ptr id off)) with
   | .ret ⟨.one a,[]⟩=>some a
   | _=>none
  | _=>none
def resAll (E:Env) (s:St):List ResultVar → Option (List A1)
 | []=>some []
 | r :: rs=>match res1 E s r with
  | some a=>match resAll E s rs with
   | some l=>some (a :: l)
   | none=>none
  | none=>none
def avOfRes:List A1 → AV
 | [a]=>.one a
 | l=>.tup l
def enter (args:List AV) (ntmps:Nat):List AV:=args ++ List.replicate (ntmps - args.length) (.tup [])
def inlined (E:Env) (ev:Operand → AV):Op → Option (Func × List AV)
 | .call c=>match c.callee with
  | .value f=>match (match f with
    | .func _=>target (ev f)
    | _=>match ev f with
     | .one (.sc (.clo ..))=>target (ev f)
     | _=>none) with
   | some (K,a,b)=>match E.inl K with
    | some fn=>some (fn,a ++ c.args.toList.map ev ++ b)
    | none=>none
   | none=>none
  | _=>none
 | _=>none
def eval (E:Env) {R:Type} (lr:Code → St → (X → St → Option R) → Option R):Nat → Job → St → (X → St → Option R) → Option R
 | 0,_,_,_=>none
 | n + 1,.code c,s,k =>
  match c with
  | .skip=>k .norm s
  | .ret=>k .ret s
  | .exit id=>k (.exit id) s
  | .seq a b=>eval E lr n (.code a) s fun x s=>match x with
   | .norm=>eval E lr n (.code b) s k
   | .ret=>k .ret s
   | .exit i=>k (.exit i) s
  | .cond c a b=>match s.ev c with
   | .one (.sc (.lf .bool t))=>bif t then eval E lr n (.code a) (s.learn c true) k else eval E lr n (.code b) (s.learn c false) k
   | _=>none
  | .block id c=>eval E lr n (.code c) s fun x s=>match x with
   | .norm=>k .norm s
   | .ret=>k .ret s
   | .exit i=>if i = id then k .norm s else k (.exit i) s
  | .loop c=>lr c (head (loopAnn E c) s) k
  | .region _ ops draw =>
   eval E lr n (.ops ops draw (a61 s.heap.length ops.toList) []) { s with heap:=s.heap ++ List.replicate (a81 ops.toList) .free } k
  | _=>none
 | _ + 1,.ops all draw [] log,s,k =>
  match draw with
  | false=>k .norm s.trim
  | true=>bif indep (Region.before all) log && topo 0 all.toList then k .norm s.trim else none
 | n + 1,.ops all draw ((o,nid) :: r) log,s,k =>
  let run (s:St):Option R :=
   match o.op with
   | .pick c a b=>match s.ev c with
    | .one (.sc (.lf .bool t)) =>
     bif t then eval E lr n (.ops all draw r ((log.length,[],[],tmpsOf all o,o.dst.toList) :: log)) ((s.learn c true).put o.dst ((s.learn c true).ev a)) k
     else eval E lr n (.ops all draw r ((log.length,[],[],tmpsOf all o,o.dst.toList) :: log)) ((s.learn c false).put o.dst ((s.learn c false).ev b)) k
    | _=>none
   | op =>
    match inlined E (s.ev) op with
    | some (fn,args) =>
     match draw,fn.body with
     | false,some body =>
      eval E lr n (.code body) ⟨enter args fn.ntmps,s.heap,s.heap.length⟩ fun x s' =>
       match x with
       | .exit _=>none
       | _=>match resAll E s' fn.results.toList with
        | some l=>(fun s2=>if freesOk s2.heap r then eval E lr n (.ops all draw r []) s2 k else none) (gc (({ tmps:=s.tmps,heap:=s'.heap,hb:=s.hb }:St).put o.dst (avOfRes l)))
        | none=>none
     | _,_=>none
    | none =>
     (opA E s.heap nid (s.ev) op).run fun f =>
      if okW s.heap nid op f.ws then
       eval E lr n (.ops all draw r ((log.length,readsOf (s.ev) op,f.ws.map (·.1),tmpsOf all o,o.dst.toList) :: log)) ((s.write f.ws).put o.dst f.v) k
      else none
  let skip (s:St):Option R :=
   eval E lr n (.ops all draw r ((log.length,[],[],tmpsOf all o,o.dst.toList) :: log)) (s.put o.dst (.tup [])) k
  match o.guard with
  | none=>run s
  | some (j,want) =>
   match (all[j]?).bind (·.dst) with
   | none=>skip s
   | some d =>
    match s.tmps[d]?,want with
    | some (.one (.sc (.lf .bool b))),true=>bif b then run (s.learn (.tmp d) true) else skip (s.learn (.tmp d) false)
    | some (.one (.sc (.lf .bool b))),false=>bif b then skip (s.learn (.tmp d) true) else run (s.learn (.tmp d) false)
    | some (.tup []),_=>skip s
    | _,_=>none
def big:Nat:=100000
def argAVs:(ts:List Ty) → Args ts → List AV
 | [],_=>[]
 | t :: ts,x=>.one (toA t x.1) :: argAVs ts x.2
def finish (E:Env) (rv:List ResultVar) (res:List Ty) (fresh:Bool) (s:St):Option (Args res) :=
 match resAll E s rv with
 | none=>none
 | some l=>match fresh,l with
  | false,_=>fzArgs s.heap res (l.map .one)
  | true,[.sc (.own id _)]=>match s.heap[id]? with
   | some (.row _ true _ _)=>fzArgs s.heap res (l.map .one)
   | _=>none
  | true,[.sc .nilS]=>fzArgs s.heap res (l.map .one)
  | true,_=>none
def runFn (E:Env) (fn:Func) (args res:List Ty) (fresh:Bool) (lr:Code → St → (X → St → Option (Args res)) → Option (Args res)) (x:Args args):Option (Args res) :=
 match fn.body with
 | none=>none
 | some body =>
  eval E lr big (.code body) ⟨enter (argAVs args x) fn.ntmps,[],0⟩ fun e s =>
   match e with
   | .exit _=>none
   | _=>finish E fn.results.toList res fresh s
end Go.Am
end
section
namespace Go.Am
open Go.RowKit (Below)
abbrev Cells:=Nat → Nat → Prop
abbrev Mu:=Nat → Option (Nat × Nat)
def fnVal:Option Nat → Value
 | none=>.nilFunc
 | some f=>.func (.func f) #[] #[]
def RepLs {α:Type} (R:α → List Value → Prop):List α → List Value → Prop
 | [],vs=>vs = []
 | x :: l,vs=>∃ a b,vs = a ++ b ∧ R x a ∧ RepLs R l b
def AtCells (w:World) (I:Cells) (b o:Nat) (vs:List Value):Prop :=
 ∀ j v,vs[j]? = some v → I b (o + j) ∧ w.cell? ⟨b,o + j,none⟩ = some v
def RepC (w:World) (I:Cells):(t:Ty) → t.den → List Value → Prop
 | .int k,x,cs=>cs = [.int k x]
 | .bool,x,cs=>cs = [.bool x]
 | .str,x,cs=>cs = [.string x]
 | .fn,x,cs=>cs = [fnVal x]
 | .slice e,x,cs=>∃ base cap,cs = [.slice base (List.length x) cap] ∧ List.length x ≤ cap ∧
   (x = [] ∨ ∃ b o vs,base = some ⟨b,o,none⟩ ∧ RepLs (RepC w I e) x vs ∧ AtCells w I b o vs)
 | .pair s t,x,cs=>∃ c d,cs = c ++ d ∧ RepC w I s x.1 c ∧ RepC w I t x.2 d
 | .unit,_,cs=>cs = []
structure Keeps (w w':World) (I I':Cells):Prop where
 cell:∀ b o,I b o → I' b o ∧ w'.cell? ⟨b,o,none⟩ = w.cell? ⟨b,o,none⟩
theorem Keeps.refl (w:World) (I:Cells):Keeps w w I I:=⟨fun _ _ h=>⟨h,rfl⟩⟩
theorem Keeps.trans {w w' w'':World} {I I' I'':Cells} (h:Keeps w w' I I') (k:Keeps w' w'' I' I''):Keeps w w'' I I'' :=
 ⟨fun b o hi=>let ⟨h1,h2⟩:=h.cell b o hi; let ⟨k1,k2⟩:=k.cell b o h1; ⟨k1,k2.trans h2⟩⟩
theorem AtCells.mono {w w':World} {I I':Cells} (h:Keeps w w' I I') {b o:Nat} {vs:List Value} (a:AtCells w I b o vs):AtCells w' I' b o vs :=
 fun j v hj=>let ⟨h1,h2⟩:=a j v hj; let ⟨k1,k2⟩:=h.cell _ _ h1; ⟨k1,k2.trans h2⟩
theorem RepLs.mono {α:Type} {R R':α → List Value → Prop} (h:∀ x vs,R x vs → R' x vs):∀ {l:List α} {vs:List Value},RepLs R l vs → RepLs R' l vs
 | [],_,hv=>hv
 | _ :: _,_,⟨a,b,e,h1,h2⟩=>⟨a,b,e,h _ _ h1,RepLs.mono h h2⟩
theorem RepC.mono {w w':World} {I I':Cells} (h:Keeps w w' I I'):∀ (t:Ty) (x:t.den) (cs:List Value),RepC w I t x cs → RepC w' I' t x cs
 | .int _,_,_,hr=>hr
 | .bool,_,_,hr=>hr
 | .str,_,_,hr=>hr
 | .fn,_,_,hr=>hr
 | .unit,_,_,hr=>hr
 | .slice e,x,cs,⟨base,cap,he,hc,hx⟩=>⟨base,cap,he,hc,hx.imp id fun ⟨b,o,vs,hb,hl,ha⟩=>⟨b,o,vs,hb,RepLs.mono (fun y ys hy=>RepC.mono h e y ys hy) hl,ha.mono h⟩⟩
 | .pair s t,x,cs,⟨c,d,he,h1,h2⟩=>⟨c,d,he,RepC.mono h s _ _ h1,RepC.mono h t _ _ h2⟩
theorem RepC.len {w:World} {I:Cells}:∀ {t:Ty} {x:t.den} {cs:List Value},RepC w I t x cs → cs.length = t.width
 | .int _,_,_,h=>by subst h; rfl
 | .bool,_,_,h=>by subst h; rfl
 | .str,_,_,h=>by subst h; rfl
 | .fn,_,_,h=>by subst h; rfl
 | .unit,_,_,h=>by subst h; rfl
 | .slice _,_,_,⟨_,_,h,_⟩=>by subst h; rfl
 | .pair s t,_,_,⟨c,d,h,h1,h2⟩=>by subst h; simp [Ty.width,h1.len,h2.len]
theorem fnVal_one (x:Option Nat):(fnVal x).oneCell' = true:=by cases x <;> rfl
theorem RepC.one {w:World} {I:Cells}:∀ {t:Ty} {x:t.den} {cs:List Value},RepC w I t x cs → ∀ v ∈ cs,v.oneCell' = true
 | .int _,_,_,h=>by subst h; simp [Value.oneCell']
 | .bool,_,_,h=>by subst h; simp [Value.oneCell']
 | .str,_,_,h=>by subst h; simp [Value.oneCell']
 | .fn,_,_,h=>by subst h; simp [fnVal_one]
 | .unit,_,_,h=>by subst h; simp
 | .slice _,_,_,⟨_,_,h,_⟩=>by subst h; simp [Value.oneCell']
 | .pair s t,_,_,⟨c,d,h,h1,h2⟩=>by
  subst h
  intro v hv
  rcases List.mem_append.1 hv with hv | hv
  ·exact h1.one v hv
  ·exact h2.one v hv
theorem RepLs.len {w:World} {I:Cells} {e:Ty}:∀ {l:List e.den} {vs:List Value},RepLs (RepC w I e) l vs → vs.length = l.length * e.width
 | [],_,h=>by subst h; simp
 | x :: l,_,⟨a,b,h,h1,h2⟩=>by subst h; simp [h1.len,h2.len,Nat.add_mul]; omega
theorem RepLs.one {w:World} {I:Cells} {e:Ty}:∀ {l:List e.den} {vs:List Value},RepLs (RepC w I e) l vs → ∀ v ∈ vs,v.oneCell' = true
 | [],_,h=>by subst h; simp
 | x :: l,_,⟨a,b,h,h1,h2⟩=>by
  subst h
  intro v hv
  rcases List.mem_append.1 hv with hv | hv
  ·exact h1.one v hv
  ·exact h2.one v hv
theorem RepLs.append {α:Type} {R:α → List Value → Prop}:∀ {l m:List α} {vs us:List Value},RepLs R l vs → RepLs R m us → RepLs R (l ++ m) (vs ++ us)
 | [],_,_,_,h,k=>by cases h; exact k
 | _ :: _,_,_,us,⟨a,b,e,h1,h2⟩,k=>⟨a,b ++ us,by rw [e,List.append_assoc],h1,RepLs.append h2 k⟩
def RepLeaf (w:World) (I:Cells) (l:Leaf) (v:Value):Prop:=l.t.flat = true ∧ RepC w I l.t l.x [v]
def OwnRep (m:Option (Nat × Nat)) (e:Ty) (l:List e.den) (v:Value):Prop :=
 match m with
 | none=>l = [] ∧ ∃ base,v = .slice base 0 0
 | some (b,n)=>∃ cap,v = .slice (some ⟨b,0,none⟩) l.length cap ∧ l.length ≤ cap ∧ cap ≤ maxLen ∧ cap * e.width = n
def RepPtr (H:List Blk) (μ:Mu) (p:Nat × Nat) (v:Value):Prop :=
 (∃ l,H[p.1]? = some (.cells l)) ∧ ∃ b n,μ p.1 = some (b,n) ∧ v = .pointer (some ⟨b,p.2,none⟩)
def Each {α β:Type} (R:α → β → Prop):List α → List β → Prop
 | [],[]=>True
 | x :: l,y :: m=>R x y ∧ Each R l m
 | _,_=>False
def RepSc (H:List Blk) (μ:Mu) (w:World) (I:Cells):Sc → Value → Prop
 | .lf t x,v=>t.flat = true ∧ RepC w I t x [v]
 | .nilS,v=>v = .slice none 0 0
 | .capd e l,v=>∃ base,v = .slice base l.length l.length ∧ RepC w I (.slice e) l [v]
 | .own id ver,v=>(∃ e x vr l,H[id]? = some (.row e x vr l) ∧ ver ≤ vr ∧ (ver = vr → OwnRep (μ id) e l v)) ∧ ∃ a n c,v = .slice a n c
 | .ptr id off,v=>RepPtr H μ (id,off) v
 | .eptr id ver i off,v=>(∃ e x vr l,H[id]? = some (.row e x vr l) ∧ ver ≤ vr ∧ (ver = vr → ∃ b n,μ id = some (b,n) ∧ v = .pointer (some ⟨b,i * e.width + off,none⟩))) ∧ ∃ a,v = .pointer a
 | .rptr ls,v=>∃ b o vs,v = .pointer (some ⟨b,o,none⟩) ∧ AtCells w I b o vs ∧ Each (RepLeaf w I) ls vs
 | .clo f first cap,v=>∃ va vb,v = .func (.func f) va vb ∧ Each (RepPtr H μ) first va.toList ∧ Each (RepPtr H μ) cap vb.toList
 | .nilI,v=>v = .nilIface
 | .junk,_=>True
def RepA1 (H:List Blk) (μ:Mu) (w:World) (I:Cells):A1 → Value → Prop
 | .sc s,v=>RepSc H μ w I s v
 | .agg l,v=>∃ cs:Array Value,v = .agg cs ∧ Each (RepSc H μ w I) l cs.toList
def RepAV (H:List Blk) (μ:Mu) (w:World) (I:Cells):AV → Value → Prop
 | .one a,v=>RepA1 H μ w I a v
 | .tup l,v=>∃ vs:Array Value,v = .tuple vs ∧ Each (RepA1 H μ w I) l vs.toList
def BlkOk (H:List Blk) (μ:Mu) (w:World) (I:Cells) (id:Nat):Blk → Prop
 | .free=>True
 | .cells l=>∃ b c e,μ id = some (b,l.length) ∧ w.heap[b]? = some (.cells c e (0,0)) ∧ Each (RepSc H μ w I) l c.toList
 | .row e _ _ l=>match μ id with
  | none=>l = []
  | some (b,n)=>∃ c el vs,w.heap[b]? = some (.cells c el (0,0)) ∧ c.size = n ∧ RepLs (RepC w I e) l vs ∧ c.toList.take vs.length = vs
def Blk.live:Blk → Bool
 | .free=>false
 | _=>true
structure Base where
 w:World
 I:Cells
structure HeapRel (B:Nat) (w0:Base) (H:List Blk) (μ:Mu) (w:World) (I:Cells):Prop where
 blk:∀ (id:Nat) (b:Blk),H[id]? = some b → BlkOk H μ w I id b
 inj:∀ (id id':Nat) (x x':Blk) (b n n':Nat),H[id]? = some x → H[id']? = some x' → x.live = true → x'.live = true → μ id = some (b,n) → μ id' = some (b,n') → id = id'
 low:∀ (id:Nat) (x:Blk) (b n:Nat),H[id]? = some x → x.live = true → μ id = some (b,n) → B ≤ b
 imm:∀ (b o:Nat),I b o → b < w.heap.size ∧ ∀ (id:Nat) (x:Blk) (n:Nat),H[id]? = some x → x.live = true → μ id = some (b,n) →
  ∃ e vr,∃ l:List e.den,x = .row e false vr l ∧ o < l.length * e.width
 below:Below B w0.w w
 fresh:∀ b o,I b o → w0.I b o ∨ B ≤ b
 base:B ≤ w.heap.size
structure Ext (n:Nat) (H:List Blk) (μ:Mu) (w:World) (I:Cells) (H':List Blk) (μ':Mu) (w':World) (I':Cells):Prop where
 keeps:Keeps w w' I I'
 cells:∀ id,id < n → ∀ l,H[id]? = some (.cells l) → (∃ l',H'[id]? = some (.cells l')) ∧ μ' id = μ id
 rows:∀ id,id < n → ∀ e x vr l,H[id]? = some (.row e x vr l) → ∃ x' vr',∃ l':List e.den,H'[id]? = some (.row e x' vr' l') ∧ vr ≤ vr' ∧ (vr = vr' → μ' id = μ id ∧ l'.length = l.length)
theorem Ext.refl (n:Nat) (H:List Blk) (μ:Mu) (w:World) (I:Cells):Ext n H μ w I H μ w I :=
 ⟨Keeps.refl w I,fun _ _ l h=>⟨⟨l,h⟩,rfl⟩,fun _ _ _ x vr l h=>⟨x,vr,l,h,Nat.le_refl _,fun _=>⟨rfl,rfl⟩⟩⟩
theorem Ext.trans {n:Nat} {H H' H'':List Blk} {μ μ' μ'':Mu} {w w' w'':World} {I I' I'':Cells}
  (h:Ext n H μ w I H' μ' w' I') (k:Ext n H' μ' w' I' H'' μ'' w'' I''):Ext n H μ w I H'' μ'' w'' I'':=by
 refine ⟨h.keeps.trans k.keeps,fun id hid l hl=>?_,fun id hid e x vr l hl=>?_⟩
 ·obtain ⟨⟨l',h1⟩,h2⟩:=h.cells id hid l hl
  obtain ⟨k1,k2⟩:=k.cells id hid l' h1
  exact ⟨k1,k2.trans h2⟩
 ·obtain ⟨x',vr',l',h1,h2,h3⟩:=h.rows id hid e x vr l hl
  obtain ⟨x'',vr'',l'',k1,k2,k3⟩:=k.rows id hid e x' vr' l' h1
  refine ⟨x'',vr'',l'',k1,Nat.le_trans h2 k2,fun hv=>?_⟩
  have e1:vr = vr':=by omega
  have e2:vr' = vr'':=by omega
  exact ⟨(k3 e2).1.trans (h3 e1).1,(k3 e2).2.trans (h3 e1).2⟩
theorem Ext.mono {n m:Nat} {H H':List Blk} {μ μ':Mu} {w w':World} {I I':Cells} (h:Ext n H μ w I H' μ' w' I') (hm:m ≤ n):Ext m H μ w I H' μ' w' I' :=
 ⟨h.keeps,fun id hid=>h.cells id (Nat.lt_of_lt_of_le hid hm),fun id hid=>h.rows id (Nat.lt_of_lt_of_le hid hm)⟩
theorem Each.mono {α β:Type} {R R':α → β → Prop}:∀ {l:List α} {m:List β},(∀ x y,x ∈ l → R x y → R' x y) → Each R l m → Each R' l m
 | [],[],_,_=>trivial
 | x :: l,y :: m,h,⟨h1,h2⟩=>⟨h x y (by simp) h1,Each.mono (fun x y hx=>h x y (by simp [hx])) h2⟩
 | [],_ :: _,_,k=>k.elim
 | _ :: _,[],_,k=>k.elim
theorem Each.len {α β:Type} {R:α → β → Prop}:∀ {l:List α} {m:List β},Each R l m → l.length = m.length
 | [],[],_=>rfl
 | _ :: _,_ :: _,⟨_,h⟩=>by simp [h.len]
 | [],_ :: _,k=>k.elim
 | _ :: _,[],k=>k.elim
theorem Each.get {α β:Type} {R:α → β → Prop}:∀ {l:List α} {m:List β},Each R l m → ∀ (i:Nat) x,l[i]? = some x → ∃ y,m[i]? = some y ∧ R x y
 | [],[],_,i,x,h=>by simp at h
 | x :: l,y :: m,⟨h1,h2⟩,0,z,h=>by simp at h; subst h; exact ⟨y,rfl,h1⟩
 | x :: l,y :: m,⟨h1,h2⟩,i + 1,z,h=>by simp at h; simpa using h2.get i z h
 | [],_ :: _,k,_,_,_=>k.elim
 | _ :: _,[],k,_,_,_=>k.elim
theorem Each.append {α β:Type} {R:α → β → Prop}:∀ {l l':List α} {m m':List β},Each R l m → Each R l' m' → Each R (l ++ l') (m ++ m')
 | [],_,[],_,_,h=>h
 | _ :: _,_,_ :: _,_,⟨h1,h2⟩,h=>⟨h1,Each.append h2 h⟩
 | [],_,_ :: _,_,k,_=>k.elim
 | _ :: _,_,[],_,k,_=>k.elim
theorem Each.take {α β:Type} {R:α → β → Prop}:∀ (n:Nat) {l:List α} {m:List β},Each R l m → Each R (l.take n) (m.take n)
 | 0,_,_,_=>by simp [Each]
 | _ + 1,[],[],_=>by simp [Each]
 | n + 1,_ :: _,_ :: _,⟨h1,h2⟩=>⟨h1,h2.take n⟩
 | _ + 1,[],_ :: _,k=>k.elim
 | _ + 1,_ :: _,[],k=>k.elim
theorem Each.drop {α β:Type} {R:α → β → Prop}:∀ (n:Nat) {l:List α} {m:List β},Each R l m → Each R (l.drop n) (m.drop n)
 | 0,_,_,h=>h
 | _ + 1,[],[],_=>trivial
 | n + 1,_ :: _,_ :: _,⟨_,h2⟩=>h2.drop n
 | _ + 1,[],_ :: _,k=>k.elim
 | _ + 1,_ :: _,[],k=>k.elim
theorem Each.set {α β:Type} {R:α → β → Prop}:∀ {l:List α} {m:List β},Each R l m → ∀ (i:Nat) x y,R x y → Each R (l.set i x) (m.set i y)
 | [],[],_,_,_,_,_=>by simp [Each]
 | _ :: _,_ :: _,⟨_,h2⟩,0,_,_,h=>⟨h,h2⟩
 | _ :: _,_ :: _,⟨h1,h2⟩,i + 1,x,y,h=>⟨h1,h2.set i x y h⟩
 | [],_ :: _,k,_,_,_,_=>k.elim
 | _ :: _,[],k,_,_,_,_=>k.elim
theorem RepPtr.ext {n:Nat} {H H':List Blk} {μ μ':Mu} {w w':World} {I I':Cells} (h:Ext n H μ w I H' μ' w' I') {p:Nat × Nat} {v:Value}
  (hp:p.1 < n) (hr:RepPtr H μ p v):RepPtr H' μ' p v:=by
 obtain ⟨⟨l,hl⟩,b,m,hb,hv⟩:=hr
 obtain ⟨h1,h2⟩:=h.cells p.1 hp l hl
 exact ⟨h1,b,m,h2.trans hb,hv⟩
theorem RepLeaf.mono {w w':World} {I I':Cells} (h:Keeps w w' I I') {l:Leaf} {v:Value} (hr:RepLeaf w I l v):RepLeaf w' I' l v :=
 ⟨hr.1,RepC.mono h _ _ _ hr.2⟩
theorem OwnRep.len {m:Option (Nat × Nat)} {e:Ty} {l l':List e.den} {v:Value} (h:l'.length = l.length) (hr:OwnRep m e l v):OwnRep m e l' v:=by
 cases m with
 | none =>
  obtain ⟨h1,h2⟩:=hr
  subst h1
  exact ⟨List.eq_nil_of_length_eq_zero (by simpa using h),h2⟩
 | some p =>
  obtain ⟨cap,h1,h2⟩:=hr
  exact ⟨cap,by rw [h,h1],by rw [h]; exact h2⟩
theorem RepSc.ext {n:Nat} {H H':List Blk} {μ μ':Mu} {w w':World} {I I':Cells} (h:Ext n H μ w I H' μ' w' I') :
  ∀ {s:Sc} {v:Value},(∀ id ∈ s.ids,id < n) → RepSc H μ w I s v → RepSc H' μ' w' I' s v
 | .lf t x,v,_,hr=>⟨hr.1,RepC.mono h.keeps _ _ _ hr.2⟩
 | .nilS,v,_,hr=>hr
 | .capd e l,v,_,⟨base,h1,h2⟩=>⟨base,h1,RepC.mono h.keeps _ _ _ h2⟩
 | .own id ver,v,hi,⟨⟨e,x,vr,l,h1,h2,h3⟩,h4⟩=>by
  obtain ⟨x',vr',l',k1,k2,k3⟩:=h.rows id (hi id (by simp [Sc.ids])) e x vr l h1
  refine ⟨⟨e,x',vr',l',k1,Nat.le_trans h2 k2,fun hv=>?_⟩,h4⟩
  have e1:ver = vr:=by omega
  have e2:vr = vr':=by omega
  rw [(k3 e2).1]
  exact (h3 e1).len (k3 e2).2
 | .ptr id off,v,hi,hr=>RepPtr.ext (p:=(id,off)) h (hi id (by simp [Sc.ids])) hr
 | .eptr id ver i off,v,hi,⟨⟨e,x,vr,l,h1,h2,h3⟩,h4⟩=>by
  obtain ⟨x',vr',l',k1,k2,k3⟩:=h.rows id (hi id (by simp [Sc.ids])) e x vr l h1
  refine ⟨⟨e,x',vr',l',k1,Nat.le_trans h2 k2,fun hv=>?_⟩,h4⟩
  have e1:ver = vr:=by omega
  have e2:vr = vr':=by omega
  rw [(k3 e2).1]
  exact h3 e1
 | .rptr ls,v,_,⟨b,o,vs,h1,h2,h3⟩=>⟨b,o,vs,h1,h2.mono h.keeps,h3.mono fun _ _ _ hr=>hr.mono h.keeps⟩
 | .clo f a c,v,hi,⟨va,vb,h1,h2,h3⟩=>⟨va,vb,h1,
   h2.mono fun p _ hp hr=>hr.ext h (hi p.1 (by simp [Sc.ids]; exact .inl ⟨_,hp⟩)),
   h3.mono fun p _ hp hr=>hr.ext h (hi p.1 (by simp [Sc.ids]; exact .inr ⟨_,hp⟩))⟩
 | .nilI,_,_,hr=>hr
 | .junk,_,_,_=>trivial
theorem RepA1.ext {n:Nat} {H H':List Blk} {μ μ':Mu} {w w':World} {I I':Cells} (h:Ext n H μ w I H' μ' w' I') :
  ∀ {a:A1} {v:Value},(∀ id ∈ a.ids,id < n) → RepA1 H μ w I a v → RepA1 H' μ' w' I' a v
 | .sc _,_,hi,hr=>RepSc.ext h hi hr
 | .agg l,v,hi,⟨cs,h1,h2⟩=>⟨cs,h1,h2.mono fun s _ hs hr=>hr.ext h (fun id hid=>hi id (by simp [A1.ids]; exact ⟨s,hs,hid⟩))⟩
theorem RepAV.ext {n:Nat} {H H':List Blk} {μ μ':Mu} {w w':World} {I I':Cells} (h:Ext n H μ w I H' μ' w' I') :
  ∀ {a:AV} {v:Value},(∀ id ∈ a.ids,id < n) → RepAV H μ w I a v → RepAV H' μ' w' I' a v
 | .one _,_,hi,hr=>RepA1.ext h hi hr
 | .tup l,v,hi,⟨vs,h1,h2⟩=>⟨vs,h1,h2.mono fun s _ hs hr=>hr.ext h (fun id hid=>hi id (by simp [AV.ids]; exact ⟨s,hs,hid⟩))⟩
theorem RepPtr.lt {H:List Blk} {μ:Mu} {p:Nat × Nat} {v:Value} (h:RepPtr H μ p v):p.1 < H.length:=by
 obtain ⟨⟨l,hl⟩,_⟩:=h
 exact (List.getElem?_eq_some_iff.1 hl).1
theorem Each.mem {α β:Type} {R:α → β → Prop}:∀ {l:List α} {m:List β},Each R l m → ∀ x ∈ l,∃ y,R x y
 | [],[],_,x,h=>by simp at h
 | x :: l,y :: m,⟨h1,h2⟩,z,h=>by
  rcases List.mem_cons.1 h with rfl | h
  ·exact ⟨y,h1⟩
  ·exact h2.mem z h
 | [],_ :: _,k,_,_=>k.elim
 | _ :: _,[],k,_,_=>k.elim
theorem RepSc.lt {H:List Blk} {μ:Mu} {w:World} {I:Cells}:∀ {s:Sc} {v:Value},RepSc H μ w I s v → ∀ id ∈ s.ids,id < H.length
 | .own id ver,v,⟨⟨e,x,vr,l,h,_⟩,_⟩,i,hi=>by simp [Sc.ids] at hi; subst hi; exact (List.getElem?_eq_some_iff.1 h).1
 | .ptr id off,v,hr,i,hi=>by simp [Sc.ids] at hi; subst hi; exact RepPtr.lt (p:=(i,off)) hr
 | .eptr id ver _ off,v,⟨⟨e,x,vr,l,h,_⟩,_⟩,i,hi=>by simp [Sc.ids] at hi; subst hi; exact (List.getElem?_eq_some_iff.1 h).1
 | .clo f a c,v,⟨va,vb,h1,h2,h3⟩,i,hi=>by
  simp only [Sc.ids,List.mem_append,List.mem_map] at hi
  rcases hi with ⟨p,hp,rfl⟩ | ⟨p,hp,rfl⟩
  ·obtain ⟨y,hy⟩:=h2.mem p hp; exact hy.lt
  ·obtain ⟨y,hy⟩:=h3.mem p hp; exact hy.lt
 | .lf ..,_,_,_,hi=>by simp [Sc.ids] at hi
 | .nilS,_,_,_,hi=>by simp [Sc.ids] at hi
 | .capd ..,_,_,_,hi=>by simp [Sc.ids] at hi
 | .rptr ..,_,_,_,hi=>by simp [Sc.ids] at hi
 | .nilI,_,_,_,hi=>by simp [Sc.ids] at hi
 | .junk,_,_,_,hi=>by simp [Sc.ids] at hi
theorem RepA1.lt {H:List Blk} {μ:Mu} {w:World} {I:Cells}:∀ {a:A1} {v:Value},RepA1 H μ w I a v → ∀ id ∈ a.ids,id < H.length
 | .sc _,_,h,id,hi=>RepSc.lt h id hi
 | .agg l,v,⟨cs,h1,h2⟩,id,hi=>by
  simp only [A1.ids,List.mem_flatMap] at hi
  obtain ⟨s,hs,hid⟩:=hi
  obtain ⟨y,hy⟩:=h2.mem s hs
  exact hy.lt id hid
theorem RepAV.lt {H:List Blk} {μ:Mu} {w:World} {I:Cells}:∀ {a:AV} {v:Value},RepAV H μ w I a v → ∀ id ∈ a.ids,id < H.length
 | .one _,_,h,id,hi=>RepA1.lt h id hi
 | .tup l,v,⟨cs,h1,h2⟩,id,hi=>by
  simp only [AV.ids,List.mem_flatMap] at hi
  obtain ⟨s,hs,hid⟩:=hi
  obtain ⟨y,hy⟩:=h2.mem s hs
  exact hy.lt id hid
theorem RepSc.one {H:List Blk} {μ:Mu} {w:World} {I:Cells} {s:Sc} {v:Value} (hs:s.storable = true) (h:RepSc H μ w I s v):v.oneCell' = true:=by
 cases s with
 | lf t x=>exact h.2.one v (by simp)
 | nilS=>cases h; rfl
 | capd e l=>obtain ⟨base,rfl,_⟩:=h; rfl
 | own id ver=>obtain ⟨_,a,n,c,rfl⟩:=h; rfl
 | ptr id off=>obtain ⟨_,b,n,_,rfl⟩:=h; rfl
 | eptr id ver i off=>obtain ⟨_,a,rfl⟩:=h; rfl
 | rptr ls=>obtain ⟨b,o,vs,rfl,_⟩:=h; rfl
 | clo f a c=>obtain ⟨va,vb,rfl,_⟩:=h; rfl
 | nilI=>cases h; rfl
 | junk=>cases hs
theorem cells_one {v:Value} (h:v.oneCell' = true):v.cells = #[v]:=by cases v <;> first | rfl | cases h
def Grows (m m':Option (Nat × Nat)):Blk → Blk → Prop
 | .free,_=>True
 | .cells _,b=>(∃ l',b = .cells l') ∧ m' = m
 | .row e _ vr l,b=>∃ x' vr',∃ l':List e.den,b = .row e x' vr' l' ∧ vr ≤ vr' ∧ (vr = vr' → m' = m ∧ l'.length = l.length)
theorem a44 {α:Type} {H:List α} {id:Nat} (h:id < H.length) (b:α):(H.set id b)[id]? = some b:=by simp [h]
theorem a66 {α:Type} {H:List α} {id j:Nat} (h:j ≠ id) (b:α):(H.set id b)[j]? = H[j]?:=by
 rw [List.getElem?_set]; simp [Ne.symm h]
theorem Ext.set {H:List Blk} {μ μ':Mu} {w w':World} {I I':Cells} {id:Nat} {old b:Blk} (hold:H[id]? = some old)
  (hk:Keeps w w' I I') (hμ:∀ j,j ≠ id → μ' j = μ j) (hg:Grows (μ id) (μ' id) old b):Ext H.length H μ w I (H.set id b) μ' w' I':=by
 have hlt:id < H.length:=(List.getElem?_eq_some_iff.1 hold).1
 refine ⟨hk,fun j _ l hl=>?_,fun j _ e x vr l hl=>?_⟩
 ·by_cases hj:j = id
  ·subst hj
   rw [hold] at hl
   cases hl
   obtain ⟨⟨l',rfl⟩,hm⟩:=hg
   exact ⟨⟨l',a44 hlt _⟩,hm⟩
  ·exact ⟨⟨l,by rw [a66 hj]; exact hl⟩,hμ j hj⟩
 ·by_cases hj:j = id
  ·subst hj
   rw [hold] at hl
   cases hl
   obtain ⟨x',vr',l',rfl,h1,h2⟩:=hg
   exact ⟨x',vr',l',a44 hlt _,h1,h2⟩
  ·exact ⟨x,vr,l,by rw [a66 hj]; exact hl,Nat.le_refl _,fun _=>⟨hμ j hj,rfl⟩⟩
theorem BlkOk.ext {H H':List Blk} {μ μ':Mu} {w w':World} {I I':Cells} {id:Nat} {b:Blk} (h:Ext H.length H μ w I H' μ' w' I')
  (hb:BlkOk H μ w I id b) (hμ:μ' id = μ id) (hw:b.live = true → ∀ g n,μ id = some (g,n) → w'.heap[g]? = w.heap[g]?):BlkOk H' μ' w' I' id b:=by
 cases b with
 | free=>trivial
 | cells l =>
  obtain ⟨g,c,e,h1,h2,h3⟩:=hb
  exact ⟨g,c,e,hμ.trans h1,(hw rfl g _ h1).trans h2,h3.mono fun s v _ hr=>hr.ext h (hr.lt)⟩
 | row e x vr l =>
  simp only [BlkOk] at hb ⊢
  rw [hμ]
  cases hm:μ id with
  | none=>rw [hm] at hb; exact hb
  | some p =>
   obtain ⟨g,n⟩:=p
   rw [hm] at hb
   obtain ⟨c,el,vs,h1,h2,h3,h4⟩:=hb
   exact ⟨c,el,vs,(hw rfl g n hm).trans h1,h2,h3.mono fun _ _ hr=>RepC.mono h.keeps _ _ _ hr,h4⟩
theorem HeapRel.upd {B:Nat} {w0:Base} {H:List Blk} {μ μ':Mu} {w w':World} {I I':Cells} (hr:HeapRel B w0 H μ w I) {id:Nat} {b:Blk}
  (hlt:id < H.length) (hext:Ext H.length H μ w I (H.set id b) μ' w' I') (hμ:∀ j,j ≠ id → μ' j = μ j)
  (hw:∀ (j:Nat) (x:Blk) (g n:Nat),j ≠ id → H[j]? = some x → x.live = true → μ j = some (g,n) → w'.heap[g]? = w.heap[g]?)
  (hb:BlkOk (H.set id b) μ' w' I' id b)
  (hinj:∀ g n,b.live = true → μ' id = some (g,n) → B ≤ g ∧ ∀ (j:Nat) (x:Blk) (n':Nat),j ≠ id → H[j]? = some x → x.live = true → μ j ≠ some (g,n'))
  (himm:∀ g o,I' g o → g < w'.heap.size ∧ (∀ n,μ' id = some (g,n) → b.live = true → ∃ e vr,∃ l:List e.den,b = .row e false vr l ∧ o < l.length * e.width) ∧
   (I g o ∨ ∀ (j:Nat) (x:Blk) (n:Nat),j ≠ id → H[j]? = some x → x.live = true → μ j ≠ some (g,n)))
  (hbelow:Below B w w') (hfresh:∀ g o,I' g o → I g o ∨ B ≤ g:=by exact fun _ _ h=>.inl h):HeapRel B w0 (H.set id b) μ' w' I':=by
 refine ⟨?_,?_,?_,?_,hr.below.trans hbelow,fun g o hi=>(hfresh g o hi).elim (hr.fresh g o) .inr,Nat.le_trans hr.base hbelow.size⟩
 ·intro j x hx
  by_cases hj:j = id
  ·subst hj; rw [a44 hlt] at hx; cases hx; exact hb
  ·rw [a66 hj] at hx
   exact (hr.blk j x hx).ext hext (hμ j hj) (fun hl g n hg=>hw j x g n hj hx hl hg)
 ·intro j j' x x' g n n' hx hx' hl hl' hg hg'
  by_cases hj:j = id
  ·by_cases hj':j' = id
   ·rw [hj,hj']
   ·subst hj
    rw [a44 hlt] at hx; cases hx
    rw [a66 hj'] at hx'
    rw [hμ j' hj'] at hg'
    exact absurd hg' ((hinj g n hl hg).2 j' x' n' hj' hx' hl')
  ·by_cases hj':j' = id
   ·subst hj'
    rw [a44 hlt] at hx'; cases hx'
    rw [a66 hj] at hx
    rw [hμ j hj] at hg
    exact absurd hg ((hinj g n' hl' hg').2 j x n hj hx hl)
   ·rw [a66 hj] at hx
    rw [a66 hj'] at hx'
    rw [hμ j hj] at hg
    rw [hμ j' hj'] at hg'
    exact hr.inj j j' x x' g n n' hx hx' hl hl' hg hg'
 ·intro j x g n hx hl hg
  by_cases hj:j = id
  ·subst hj; rw [a44 hlt] at hx; cases hx; exact (hinj g n hl hg).1
  ·rw [a66 hj] at hx
   rw [hμ j hj] at hg
   exact hr.low j x g n hx hl hg
 ·intro g o hi
  obtain ⟨h1,h2,h3⟩:=himm g o hi
  refine ⟨h1,fun j x n hx hl hg=>?_⟩
  by_cases hj:j = id
  ·subst hj; rw [a44 hlt] at hx; cases hx; exact h2 n hg hl
  ·rw [a66 hj] at hx
   rw [hμ j hj] at hg
   rcases h3 with h3 | h3
   ·exact (hr.imm g o h3).2 j x n hx hl hg
   ·exact absurd hg (h3 j x n hj hx hl)
theorem HeapRel.blk_lt {B:Nat} {w0:Base} {H:List Blk} {μ:Mu} {w:World} {I:Cells} (hr:HeapRel B w0 H μ w I) {j:Nat} {x:Blk} {g n:Nat}
  (hx:H[j]? = some x) (hl:x.live = true) (hg:μ j = some (g,n)):g < w.heap.size:=by
 have hb:=hr.blk j x hx
 cases x with
 | free=>simp [Blk.live] at hl
 | cells l =>
  obtain ⟨g',c,e,h1,h2,_⟩:=hb
  rw [hg] at h1; cases h1
  exact (Array.getElem?_eq_some_iff.1 h2).1
 | row e x vr l =>
  simp only [BlkOk,hg] at hb
  obtain ⟨c,el,vs,h1,_⟩:=hb
  exact (Array.getElem?_eq_some_iff.1 h1).1
def muSet (μ:Mu) (id:Nat) (m:Option (Nat × Nat)):Mu:=fun j=>if j = id then m else μ j
theorem Z4 (μ:Mu) (id:Nat) (m:Option (Nat × Nat)):muSet μ id m id = m:=by simp [muSet]
theorem a84 (μ:Mu) {id j:Nat} (m:Option (Nat × Nat)) (h:j ≠ id):muSet μ id m j = μ j:=by simp [muSet,h]
theorem C93 (w:World) (o:Obj) {b x:Nat} (h:b < w.heap.size):(w.alloc o).cell? ⟨b,x,none⟩ = w.cell? ⟨b,x,none⟩ :=
 World.cell?_alloc_lt w o ⟨b,x,none⟩ h
theorem HeapRel.keeps_alloc {B:Nat} {w0:Base} {H:List Blk} {μ:Mu} {w:World} {I:Cells} (hr:HeapRel B w0 H μ w I) (o:Obj):Keeps w (w.alloc o) I I :=
 ⟨fun b x hi=>⟨hi,C93 w o (hr.imm b x hi).1⟩⟩
theorem HeapRel.lay_cells {B:Nat} {w0:Base} {H:List Blk} {μ:Mu} {w:World} {I:Cells} (hr:HeapRel B w0 H μ w I) {id:Nat} (hf:H[id]? = some .free)
  {l:List Sc} {c:Array Value} (e:TypeId) (hl:Each (RepSc H μ w I) l c.toList) :
  HeapRel B w0 (H.set id (.cells l)) (muSet μ id (some (w.heap.size,l.length))) (w.alloc (.cells c e)) I ∧
  Ext H.length H μ w I (H.set id (.cells l)) (muSet μ id (some (w.heap.size,l.length))) (w.alloc (.cells c e)) I:=by
 have hlt:id < H.length:=(List.getElem?_eq_some_iff.1 hf).1
 have hk:=hr.keeps_alloc (.cells c e)
 have hx:Ext H.length H μ w I (H.set id (.cells l)) (muSet μ id (some (w.heap.size,l.length))) (w.alloc (.cells c e)) I :=
  Ext.set hf hk (fun j hj=>a84 μ _ hj) trivial
 refine ⟨hr.upd hlt hx (fun j hj=>a84 μ _ hj) ?_ ?_ ?_ ?_ ((Below.refl _ _).alloc hr.base _),hx⟩
 ·intro j x g n _ hx' hlive hg
  exact heap_alloc_old w _ g (hr.blk_lt hx' hlive hg)
 ·exact ⟨w.heap.size,c,e,Z4 _ _ _,heap_alloc_new w _,hl.mono fun s v _ h=>h.ext hx h.lt⟩
 ·intro g n _ hg
  rw [Z4] at hg; cases hg
  refine ⟨hr.base,fun j x n' _ hx' hlive hg'=>?_⟩
  have:=hr.blk_lt hx' hlive hg'
  omega
 ·intro g o hi
  have h1:=(hr.imm g o hi).1
  refine ⟨by simp; omega,fun n hg _=>?_,.inl hi⟩
  rw [Z4] at hg; cases hg; omega
theorem HeapRel.lay_row {B:Nat} {w0:Base} {H:List Blk} {μ:Mu} {w:World} {I:Cells} (hr:HeapRel B w0 H μ w I) {id:Nat} (hf:H[id]? = some .free)
  {e:Ty} (x:Bool) (vr:Nat) {l:List e.den} {c:Array Value} (el:TypeId) {vs:List Value} (hl:RepLs (RepC w I e) l vs) (ht:c.toList.take vs.length = vs) :
  HeapRel B w0 (H.set id (.row e x vr l)) (muSet μ id (some (w.heap.size,c.size))) (w.alloc (.cells c el)) I ∧
  Ext H.length H μ w I (H.set id (.row e x vr l)) (muSet μ id (some (w.heap.size,c.size))) (w.alloc (.cells c el)) I:=by
 have hlt:id < H.length:=(List.getElem?_eq_some_iff.1 hf).1
 have hk:=hr.keeps_alloc (.cells c el)
 have hx:Ext H.length H μ w I (H.set id (.row e x vr l)) (muSet μ id (some (w.heap.size,c.size))) (w.alloc (.cells c el)) I :=
  Ext.set hf hk (fun j hj=>a84 μ _ hj) trivial
 refine ⟨hr.upd hlt hx (fun j hj=>a84 μ _ hj) ?_ ?_ ?_ ?_ ((Below.refl _ _).alloc hr.base _),hx⟩
 ·intro j y g n _ hx' hlive hg
  exact heap_alloc_old w _ g (hr.blk_lt hx' hlive hg)
 ·simp only [BlkOk,Z4]
  exact ⟨c,el,vs,heap_alloc_new w _,rfl,hl.mono fun _ _ h=>RepC.mono hk _ _ _ h,ht⟩
 ·intro g n _ hg
  rw [Z4] at hg; cases hg
  refine ⟨hr.base,fun j y n' _ hx' hlive hg'=>?_⟩
  have:=hr.blk_lt hx' hlive hg'
  omega
 ·intro g o hi
  have h1:=(hr.imm g o hi).1
  refine ⟨by simp; omega,fun n hg _=>?_,.inl hi⟩
  rw [Z4] at hg; cases hg; omega
theorem HeapRel.lay_none {B:Nat} {w0:Base} {H:List Blk} {μ:Mu} {w:World} {I:Cells} (hr:HeapRel B w0 H μ w I) {id:Nat} (hf:H[id]? = some .free)
  (e:Ty) (x:Bool) (vr:Nat) :
  HeapRel B w0 (H.set id (.row e x vr [])) (muSet μ id none) w I ∧ Ext H.length H μ w I (H.set id (.row e x vr [])) (muSet μ id none) w I:=by
 have hlt:id < H.length:=(List.getElem?_eq_some_iff.1 hf).1
 have hx:Ext H.length H μ w I (H.set id (.row e x vr [])) (muSet μ id none) w I :=
  Ext.set hf (Keeps.refl w I) (fun j hj=>a84 μ _ hj) trivial
 refine ⟨hr.upd hlt hx (fun j hj=>a84 μ _ hj) (fun _ _ _ _ _ _ _ _=>rfl) ?_ ?_ ?_ (Below.refl _ _),hx⟩
 ·simp only [BlkOk,Z4]
 ·intro g n _ hg
  rw [Z4] at hg; cases hg
 ·intro g o hi
  exact ⟨(hr.imm g o hi).1,(fun n hg _=>by rw [Z4] at hg; cases hg),.inl hi⟩
theorem Ext.drew {H:List Blk} {μ:Mu} {w:World} {I:Cells} (n:Nat):Ext n H μ w I H μ w.drew I :=
 Ext.mk ⟨fun _ _ hi=>⟨hi,rfl⟩⟩ (fun _ _ l hl=>⟨⟨l,hl⟩,rfl⟩) (fun _ _ _ x vr l hl=>⟨x,vr,l,hl,Nat.le_refl _,fun _=>⟨rfl,rfl⟩⟩)
theorem HeapRel.drew {B:Nat} {w0:Base} {H:List Blk} {μ:Mu} {w:World} {I:Cells} (hr:HeapRel B w0 H μ w I):HeapRel B w0 H μ w.drew I :=
 ⟨fun id b hb=>BlkOk.ext (w:=w) (Ext.drew H.length) (hr.blk id b hb) rfl (fun _ _ _ _=>rfl),hr.inj,hr.low,hr.imm,hr.below.drew,hr.fresh,hr.base⟩
def newCells (w w':World):Cells:=fun b _=>w.heap.size ≤ b ∧ b < w'.heap.size
def orCells (I J:Cells):Cells:=fun b o=>I b o ∨ J b o
theorem HeapRel.called {B:Nat} {w0:Base} {H:List Blk} {μ:Mu} {w w':World} {I J:Cells} (hr:HeapRel B w0 H μ w I) (hb:Below w.heap.size w w')
  (hJ:∀ b o,J b o → w.heap.size ≤ b ∧ b < w'.heap.size) :
  HeapRel B w0 H μ w' (orCells I J) ∧ Ext H.length H μ w I H μ w' (orCells I J):=by
 have hk:Keeps w w' I (orCells I J):=⟨fun b o hi=>⟨.inl hi,hb.cell (p:=⟨b,o,none⟩) (hr.imm b o hi).1⟩⟩
 have hx:Ext H.length H μ w I H μ w' (orCells I J) :=
  Ext.mk hk (fun _ _ l hl=>⟨⟨l,hl⟩,rfl⟩) (fun _ _ _ x vr l hl=>⟨x,vr,l,hl,Nat.le_refl _,fun _=>⟨rfl,rfl⟩⟩)
 refine ⟨⟨fun id b hb'=>(hr.blk id b hb').ext hx rfl (fun hl g n hg=>hb.block g (hr.blk_lt hb' hl hg)),hr.inj,hr.low,?_,hr.below.trans (hb.mono hr.base),fun b o hi=>hi.elim (hr.fresh b o) fun hj=>.inr (Nat.le_trans hr.base (hJ b o hj).1),Nat.le_trans hr.base hb.size⟩,hx⟩
 intro b o hi
 rcases hi with hi | hi
 ·exact ⟨Nat.lt_of_lt_of_le (hr.imm b o hi).1 hb.size,(hr.imm b o hi).2⟩
 ·obtain ⟨h1,h2⟩:=hJ b o hi
  refine ⟨h2,fun id x n hx' hl hg=>?_⟩
  have:=hr.blk_lt hx' hl hg
  omega
theorem B14 {B b:Nat} {w:World} (h:B ≤ b) (c:Array Value):Below B w (w.setRow b c) :=
 ⟨rfl,rfl,rfl,by simp,fun k hk=>setRow_other w b k c (by omega)⟩
theorem HeapRel.store_cells {B:Nat} {w0:Base} {H:List Blk} {μ:Mu} {w:World} {I:Cells} (hr:HeapRel B w0 H μ w I) {id:Nat} {l l':List Sc}
  (hid:H[id]? = some (.cells l)) {b n:Nat} {c c':Array Value} {e:TypeId} (hμ:μ id = some (b,n)) (hc:w.heap[b]? = some (.cells c e (0,0)))
  (hl:Each (RepSc H μ w I) l' c'.toList) (hlen:l'.length = l.length) :
  HeapRel B w0 (H.set id (.cells l')) μ (w.setRow b c') I ∧ Ext H.length H μ w I (H.set id (.cells l')) μ (w.setRow b c') I:=by
 have hlt:id < H.length:=(List.getElem?_eq_some_iff.1 hid).1
 have hn:n = l.length:=by
  obtain ⟨b',c2,e2,h1,_⟩:=hr.blk id _ hid
  rw [hμ] at h1; cases h1; rfl
 subst hn
 have hk:Keeps w (w.setRow b c') I I:=⟨fun g o hi=>⟨hi,cell_setRow_other w b c' ⟨g,o,none⟩ (fun hg=>by
  have hg':g = b:=hg
  subst hg'
  obtain ⟨e,vr,l2,h,_⟩:=(hr.imm g o hi).2 id _ _ hid rfl hμ
  cases h)⟩⟩
 have hx:Ext H.length H μ w I (H.set id (.cells l')) μ (w.setRow b c') I:=Ext.set hid hk (fun _ _=>rfl) ⟨⟨l',rfl⟩,rfl⟩
 refine ⟨hr.upd hlt hx (fun _ _=>rfl) ?_ ?_ ?_ ?_ (B14 (hr.low id _ b _ hid rfl hμ) c'),hx⟩
 ·intro j x g m hj hx' hlive hg
  exact setRow_other w b g c' (fun hgb=>hj (by subst hgb; exact hr.inj j id x _ g m _ hx' hid hlive rfl hg hμ))
 ·exact ⟨b,c',e,by rw [hlen]; exact hμ,setRow_heap w b c c' e (0,0) hc,hl.mono fun s v _ h=>h.ext hx h.lt⟩
 ·intro g m _ hg
  exact ⟨hr.low id _ g m hid rfl hg,fun j x n' hj hx' hlive hg'=>hj (hr.inj j id x _ g n' m hx' hid hlive rfl hg' hg)⟩
 ·intro g o hi
  refine ⟨by simpa using (hr.imm g o hi).1,fun m hg _=>?_,.inl hi⟩
  obtain ⟨e,vr,l2,h,_⟩:=(hr.imm g o hi).2 id _ m hid rfl hg
  cases h
theorem HeapRel.row_write {B:Nat} {w0:Base} {H:List Blk} {μ:Mu} {w:World} {I:Cells} (hr:HeapRel B w0 H μ w I) {id:Nat} {e:Ty} {x:Bool} {vr vr2:Nat}
  {l l2:List e.den} (hid:H[id]? = some (.row e x vr l)) {b n:Nat} {c c':Array Value} {el:TypeId} (hμ:μ id = some (b,n))
  (hc:w.heap[b]? = some (.cells c el (0,0))) {vs:List Value} (hsz:c'.size = n) (hl:RepLs (RepC w I e) l2 vs) (ht:c'.toList.take vs.length = vs)
  (hsame:∀ o,I b o → c'[o]? = c[o]?) (hv:vr ≤ vr2) (hvl:vr = vr2 → l2.length = l.length) (hlen:l.length ≤ l2.length) :
  HeapRel B w0 (H.set id (.row e x vr2 l2)) μ (w.setRow b c') I ∧ Ext H.length H μ w I (H.set id (.row e x vr2 l2)) μ (w.setRow b c') I:=by
 have hlt:id < H.length:=(List.getElem?_eq_some_iff.1 hid).1
 have hk:Keeps w (w.setRow b c') I I:=⟨fun g o hi=>⟨hi,by
  by_cases hg:g = b
  ·subst hg
   rw [cell_of_row _ g o c' el (0,0) (setRow_heap w g c c' el (0,0) hc),cell_of_row w g o c el (0,0) hc]
   exact hsame o hi
  ·exact cell_setRow_other w b c' ⟨g,o,none⟩ hg⟩⟩
 have hx:Ext H.length H μ w I (H.set id (.row e x vr2 l2)) μ (w.setRow b c') I:=Ext.set hid hk (fun _ _=>rfl) ⟨x,vr2,l2,rfl,hv,fun h=>⟨rfl,hvl h⟩⟩
 refine ⟨hr.upd hlt hx (fun _ _=>rfl) ?_ ?_ ?_ ?_ (B14 (hr.low id _ b _ hid rfl hμ) c'),hx⟩
 ·intro j y g m hj hx' hlive hg
  exact setRow_other w b g c' (fun hgb=>hj (by subst hgb; exact hr.inj j id y _ g m _ hx' hid hlive rfl hg hμ))
 ·simp only [BlkOk,hμ]
  exact ⟨c',el,vs,setRow_heap w b c c' el (0,0) hc,hsz,hl.mono fun _ _ h=>RepC.mono hk _ _ _ h,ht⟩
 ·intro g m _ hg
  exact ⟨hr.low id _ g m hid rfl hg,fun j y n' hj hx' hlive hg'=>hj (hr.inj j id y _ g n' m hx' hid hlive rfl hg' hg)⟩
 ·intro g o hi
  refine ⟨by simpa using (hr.imm g o hi).1,fun m hg _=>?_,.inl hi⟩
  obtain ⟨e',vr',l',h,ho⟩:=(hr.imm g o hi).2 id _ m hid rfl hg
  cases h
  exact ⟨e,vr2,l2,rfl,Nat.lt_of_lt_of_le ho (Nat.mul_le_mul_right _ hlen)⟩
theorem HeapRel.row_move {B:Nat} {w0:Base} {H:List Blk} {μ:Mu} {w:World} {I:Cells} (hr:HeapRel B w0 H μ w I) {id:Nat} {e:Ty} {x:Bool} {vr vr2:Nat}
  {l l2:List e.den} (hid:H[id]? = some (.row e x vr l)) {c:Array Value} (el:TypeId) {vs:List Value}
  (hl:RepLs (RepC w I e) l2 vs) (ht:c.toList.take vs.length = vs) (hv:vr < vr2) :
  HeapRel B w0 (H.set id (.row e x vr2 l2)) (muSet μ id (some (w.heap.size,c.size))) (w.alloc (.cells c el)) I ∧
  Ext H.length H μ w I (H.set id (.row e x vr2 l2)) (muSet μ id (some (w.heap.size,c.size))) (w.alloc (.cells c el)) I:=by
 have hlt:id < H.length:=(List.getElem?_eq_some_iff.1 hid).1
 have hk:=hr.keeps_alloc (.cells c el)
 have hx:Ext H.length H μ w I (H.set id (.row e x vr2 l2)) (muSet μ id (some (w.heap.size,c.size))) (w.alloc (.cells c el)) I :=
  Ext.set hid hk (fun j hj=>a84 μ _ hj) ⟨x,vr2,l2,rfl,by omega,fun h=>by omega⟩
 refine ⟨hr.upd hlt hx (fun j hj=>a84 μ _ hj) ?_ ?_ ?_ ?_ ((Below.refl _ _).alloc hr.base _),hx⟩
 ·intro j y g n _ hx' hlive hg
  exact heap_alloc_old w _ g (hr.blk_lt hx' hlive hg)
 ·have:BlkOk (H.set id (.row e x vr2 l2)) (muSet μ id (some (w.heap.size,c.size))) (w.alloc (.cells c el)) I id (.row e x vr2 l2) =
   (match muSet μ id (some (w.heap.size,c.size)) id with
   | none=>l2 = []
   | some (b,n)=>∃ c' el',∃ vs,(w.alloc (.cells c el)).heap[b]? = some (.cells c' el' (0,0)) ∧ c'.size = n ∧ RepLs (RepC (w.alloc (.cells c el)) I e) l2 vs ∧ c'.toList.take vs.length = vs):=rfl
  rw [this,Z4]
  exact ⟨c,el,vs,heap_alloc_new w _,rfl,hl.mono fun _ _ h=>RepC.mono hk _ _ _ h,ht⟩
 ·intro g n _ hg
  rw [Z4] at hg; cases hg
  refine ⟨hr.base,fun j y n' _ hx' hlive hg'=>?_⟩
  have:=hr.blk_lt hx' hlive hg'
  omega
 ·intro g o hi
  have h1:=(hr.imm g o hi).1
  refine ⟨by simp; omega,fun n hg _=>?_,.inl hi⟩
  rw [Z4] at hg; cases hg; omega
def content (H:List Blk) (μ:Mu) (id:Nat):Cells:=fun b o=>∃ e x vr,∃ l:List e.den,H[id]? = some (.row e x vr l) ∧ (∃ n,μ id = some (b,n)) ∧ o < l.length * e.width
theorem HeapRel.show {B:Nat} {w0:Base} {H:List Blk} {μ:Mu} {w:World} {I:Cells} (hr:HeapRel B w0 H μ w I) {id:Nat} {e:Ty} {x:Bool} {vr:Nat}
  {l:List e.den} (hid:H[id]? = some (.row e x vr l)) :
  HeapRel B w0 (H.set id (.row e false vr l)) μ w (orCells I (content H μ id)) ∧ Ext H.length H μ w I (H.set id (.row e false vr l)) μ w (orCells I (content H μ id)):=by
 have hlt:id < H.length:=(List.getElem?_eq_some_iff.1 hid).1
 have hk:Keeps w w I (orCells I (content H μ id)):=⟨fun g o hi=>⟨.inl hi,rfl⟩⟩
 have hx:Ext H.length H μ w I (H.set id (.row e false vr l)) μ w (orCells I (content H μ id)) :=
  Ext.set hid hk (fun _ _=>rfl) ⟨false,vr,l,rfl,Nat.le_refl _,fun _=>⟨rfl,rfl⟩⟩
 refine ⟨hr.upd hlt hx (fun _ _=>rfl) (fun _ _ _ _ _ _ _ _=>rfl) ?_ ?_ ?_ (Below.refl _ _) (fun g o hi=>hi.imp (fun h=>h) fun ⟨e',x',vr',l',h1,⟨n,h2⟩,h3⟩=>hr.low id _ g n hid rfl h2),hx⟩
 ·have h:=BlkOk.ext (b:=.row e x vr l) hx (hr.blk id _ hid) rfl (fun _ _ _ _=>rfl)
  exact h
 ·intro g m _ hg
  exact ⟨hr.low id _ g m hid rfl hg,fun j y n' hj hx' hlive hg'=>hj (hr.inj j id y _ g n' m hx' hid hlive rfl hg' hg)⟩
 ·intro g o hi
  rcases hi with hi | ⟨e',x',vr',l',h1,⟨n,h2⟩,h3⟩
  ·refine ⟨(hr.imm g o hi).1,fun m hg _=>?_,.inl hi⟩
   obtain ⟨e',vr',l',h,ho⟩:=(hr.imm g o hi).2 id _ m hid rfl hg
   cases h
   exact ⟨_,_,_,rfl,ho⟩
  ·rw [hid] at h1; cases h1
   exact ⟨hr.blk_lt hid rfl h2,fun m hg _=>⟨_,_,_,rfl,h3⟩,.inr fun j y n' hj hx' hlive hg'=>hj (hr.inj j id y _ g n' n hx' hid hlive rfl hg' h2)⟩
theorem a57:∀ (h:List Blk) (a b:List (Nat × Blk)),E3 h (a ++ b) = E3 (E3 h a) b
 | _,[],_=>rfl
 | h,(i,x) :: r,b=>by simp only [List.cons_append,E3]; exact a57 _ r b
theorem a55:∀ (h:List Blk) (a:List (Nat × Blk)),(E3 h a).length = h.length
 | _,[]=>rfl
 | h,(i,x) :: r=>by simp only [E3]; rw [a55]; simp
def Shows (H0 H:List Blk):Prop:=∀ (id:Nat) (b:Blk),H0[id]? = some b → (∃ e x x' vr,∃ l:List e.den,b = .row e x vr l ∧ H[id]? = some (.row e x' vr l)) ∨ H[id]? = some b
theorem Shows.refl (H:List Blk):Shows H H:=fun _ _ h=>.inr h
theorem Shows.row {H0 H:List Blk} (h:Shows H0 H) {id:Nat} {e:Ty} {x:Bool} {vr:Nat} {l:List e.den} (hb:H0[id]? = some (.row e x vr l)):∃ x',H[id]? = some (.row e x' vr l):=by
 rcases h id _ hb with ⟨e',x1,x2,vr',l',h1,h2⟩ | h1
 ·cases h1; exact ⟨x2,h2⟩
 ·exact ⟨x,h1⟩
theorem HeapRel.shows {B:Nat} {w0:Base} {H0:List Blk} {μ:Mu} {w:World}:∀ (ids:List Nat) {H:List Blk} {I:Cells},HeapRel B w0 H μ w I → Shows H0 H → H.length = H0.length →
  ∃ I',HeapRel B w0 (E3 H (shown H0 ids)) μ w I' ∧ Ext H.length H μ w I (E3 H (shown H0 ids)) μ w I' ∧ Shows H0 (E3 H (shown H0 ids)) ∧
   ∀ id ∈ ids,∀ b o,content H0 μ id b o → I' b o
 | [],H,I,hr,hs,_=>⟨I,hr,Ext.refl _ _ _ _ _,hs,fun _ h=>by simp at h⟩
 | id :: r,H,I,hr,hs,hlen=>by
  have other:(∀ e x vr,∀ l:List e.den,H0[id]? ≠ some (.row e x vr l)) → shown H0 (id :: r) = shown H0 r:=by
   intro hn
   simp only [shown]
  by_cases hrow:∃ e x vr,∃ l:List e.den,H0[id]? = some (.row e x vr l)
  ·obtain ⟨e,x,vr,l,h0⟩:=hrow
   obtain ⟨x',h1⟩:=hs.row h0
   obtain ⟨hr1,hx1⟩:=hr.show h1
   have hlt:id < H.length:=(List.getElem?_eq_some_iff.1 h1).1
   have hs1:Shows H0 (H.set id (.row e false vr l)):=by
    intro j b hb
    by_cases hj:j = id
    ·subst hj
     rw [h0] at hb; cases hb
     exact .inl ⟨e,x,false,vr,l,rfl,a44 hlt _⟩
    ·rw [a66 hj]; exact hs j b hb
   obtain ⟨I',hr2,hx2,hs2,hc2⟩:=HeapRel.shows r hr1 hs1 (by simpa using hlen)
   have heq:shown H0 (id :: r) = (id,.row e false vr l) :: shown H0 r:=by simp only [shown,h0]
   rw [heq]
   refine ⟨I',hr2,hx1.trans (hx2.mono (by simp)),hs2,fun j hj b o hcon=>?_⟩
   rcases List.mem_cons.1 hj with rfl | hj
   ·refine (hx2.keeps.cell b o (.inr ?_)).1
    obtain ⟨e',x2,vr',l',g1,g2,g3⟩:=hcon
    rw [h0] at g1; cases g1
    exact ⟨e,x',vr,l,h1,g2,g3⟩
   ·exact hc2 j hj b o hcon
  ·have hn:∀ e x vr,∀ l:List e.den,H0[id]? ≠ some (.row e x vr l):=fun e x vr l h=>hrow ⟨e,x,vr,l,h⟩
   rw [other hn]
   obtain ⟨I',hr2,hx2,hs2,hc2⟩:=HeapRel.shows r hr hs hlen
   refine ⟨I',hr2,hx2,hs2,fun j hj b o hcon=>?_⟩
   rcases List.mem_cons.1 hj with rfl | hj
   ·obtain ⟨e',x2,vr',l',g1,_⟩:=hcon
    exact absurd g1 (hn _ _ _ _)
   ·exact hc2 j hj b o hcon
theorem cast?_some {t t':Ty} {x:t.den} {y:t'.den} (h:cast? t t' x = some y):∃ e:t = t',y = e ▸ x:=by
 unfold cast? at h
 split at h
 ·rename_i e; exact ⟨e,by cases h; rfl⟩
 ·cases h
def RepV (w:World) (I:Cells) (t:Ty) (x:t.den) (v:Value):Prop :=
 (t.flat = true ∧ RepC w I t x [v]) ∨ (t.flat = false ∧ ∃ cs:Array Value,v = .agg cs ∧ RepC w I t x cs.toList)
def RepArgs (w:World) (I:Cells):(ts:List Ty) → Args ts → List Value → Prop
 | [],_,vs=>vs = []
 | t :: ts,x,vs=>∃ v us,vs = v :: us ∧ RepV w I t x.1 v ∧ RepArgs w I ts x.2 us
theorem RepV.mono {w w':World} {I I':Cells} (h:Keeps w w' I I') {t:Ty} {x:t.den} {v:Value} (hr:RepV w I t x v):RepV w' I' t x v :=
 hr.imp (fun ⟨h1,h2⟩=>⟨h1,RepC.mono h _ _ _ h2⟩) (fun ⟨h1,cs,h2,h3⟩=>⟨h1,cs,h2,RepC.mono h _ _ _ h3⟩)
section
variable {B:Nat} {w0:Base} {H:List Blk} {μ:Mu} {w:World} {I I':Cells}
theorem row_cells (hr:HeapRel B w0 H μ w I) {id:Nat} {e:Ty} {x:Bool} {vr:Nat} {l:List e.den} (hid:H[id]? = some (.row e x vr l))
  (hk:Keeps w w I I') (hI:∀ b o,content H μ id b o → I' b o) {v:Value} (hv:OwnRep (μ id) e l v):RepC w I' (.slice e) l [v]:=by
 cases hm:μ id with
 | none =>
  rw [hm] at hv
  obtain ⟨h1,base,h2⟩:=hv
  subst h1; subst h2
  exact ⟨base,0,rfl,Nat.le_refl _,.inl rfl⟩
 | some p =>
  obtain ⟨b,n⟩:=p
  rw [hm] at hv
  obtain ⟨cap,h1,h2,h3,h4⟩:=hv
  have hb:=hr.blk id _ hid
  simp only [BlkOk,hm] at hb
  obtain ⟨c,el,vs,k1,k2,k3,k4⟩:=hb
  subst h1
  refine ⟨some ⟨b,0,none⟩,cap,rfl,h2,.inr ⟨b,0,vs,rfl,k3.mono fun _ _ h=>RepC.mono hk _ _ _ h,fun j u hj=>?_⟩⟩
  have hlt:j < vs.length:=(List.getElem?_eq_some_iff.1 hj).1
  refine ⟨hI b _ ⟨e,x,vr,l,hid,⟨n,hm⟩,by rw [← k3.len]; omega⟩,?_⟩
  rw [Nat.zero_add,cell_of_row w b j c el (0,0) k1]
  have h5:(c.toList.take vs.length)[j]? = some u:=by rw [k4]; exact hj
  rw [List.getElem?_take,if_pos hlt] at h5
  simpa using h5
theorem fz_rep (hr:HeapRel B w0 H μ w I) {t:Ty} {s:Sc} {y:t.den} {v:Value} (hx:fz H t s = some y) (hs:RepSc H μ w I s v)
  (hk:Keeps w w I I') (hI:∀ id ∈ s.rows,∀ b o,content H μ id b o → I' b o):t.flat = true ∧ RepC w I' t y [v]:=by
 cases s with
 | lf t' x =>
  simp only [fz] at hx
  obtain ⟨e,rfl⟩:=cast?_some hx
  subst e
  exact ⟨hs.1,RepC.mono hk _ _ _ hs.2⟩
 | nilS =>
  cases t with
  | slice e =>
   simp only [fz,Option.some.injEq] at hx
   subst hx
   cases hs
   exact ⟨rfl,none,0,rfl,Nat.le_refl _,.inl rfl⟩
  | _=>simp [fz] at hx
 | capd e l =>
  simp only [fz] at hx
  obtain ⟨e',rfl⟩:=cast?_some hx
  subst e'
  obtain ⟨_,_,h2⟩:=hs
  exact ⟨rfl,RepC.mono hk _ _ _ h2⟩
 | own id ver =>
  simp only [fz] at hx
  split at hx
  ·rename_i e x vr l hid
   split at hx
   ·rename_i hv
    obtain ⟨e',rfl⟩:=cast?_some hx
    subst e'
    obtain ⟨⟨e2,x2,vr2,l2,h1,h2,h3⟩,_⟩:=hs
    rw [hid] at h1; cases h1
    exact ⟨rfl,row_cells hr hid hk (hI id (by simp [Sc.rows])) (h3 hv.symm)⟩
   ·cases hx
  ·cases hx
 | _=>simp [fz] at hx
theorem C91 {t:Ty} (ht:t.flat = true) (H:List Blk) (s:Sc) (r:List Sc):fzs H t (s :: r) = match fz H t s with | some x=>some (x,r) | none=>none:=by
 cases t <;> first | (simp [Ty.flat] at ht; done) | (simp only [fzs]; cases fz H _ s <;> rfl)
theorem fzs_nil {t:Ty} (ht:t.flat = true) (H:List Blk):fzs H t [] = none:=by
 cases t <;> first | (simp [Ty.flat] at ht; done) | simp only [fzs]
theorem Each.split {α β:Type} {R:α → β → Prop}:∀ {l l':List α} {m:List β},Each R (l ++ l') m → ∃ m1 m2,m = m1 ++ m2 ∧ Each R l m1 ∧ Each R l' m2
 | [],_,m,h=>⟨[],m,rfl,trivial,h⟩
 | _ :: _,_,_ :: _,⟨h1,h2⟩=>let ⟨m1,m2,e,k1,k2⟩:=h2.split; ⟨_ :: m1,m2,by rw [e]; rfl,⟨h1,k1⟩,k2⟩
 | _ :: _,_,[],h=>h.elim
theorem B06 (hr:HeapRel B w0 H μ w I) (hk:Keeps w w I I'):∀ (t:Ty) {ls r:List Sc} {x:t.den} {cs:List Value},fzs H t ls = some (x,r) → Each (RepSc H μ w I) ls cs →
  (∀ s ∈ ls,∀ id ∈ s.rows,∀ b o,content H μ id b o → I' b o) →
  ∃ c1 c2,cs = c1 ++ c2 ∧ RepC w I' t x c1 ∧ Each (RepSc H μ w I) r c2 ∧ ∃ l1,ls = l1 ++ r
 | .pair a b,ls,r,x,cs,hx,hc,hI=>by
  simp only [fzs] at hx
  split at hx
  ·rename_i y r1 h1
   split at hx
   ·rename_i z r2 h2
    cases hx
    obtain ⟨c1,c2,e1,k1,k2,l1,e2⟩:=B06 hr hk a h1 hc hI
    obtain ⟨d1,d2,e3,m1,m2,l2,e4⟩:=B06 hr hk b h2 k2 (fun s hs=>hI s (by rw [e2]; simp [hs]))
    exact ⟨c1 ++ d1,d2,by rw [e1,e3,List.append_assoc],⟨c1,d1,rfl,k1,m1⟩,m2,l1 ++ l2,by rw [e2,e4,List.append_assoc]⟩
   ·cases hx
  ·cases hx
 | .unit,ls,r,x,cs,hx,hc,hI=>by
  simp only [fzs] at hx
  cases hx
  exact ⟨[],cs,rfl,rfl,hc,[],rfl⟩
 | .int k,ls,r,x,cs,hx,hc,hI=>scalar rfl hx hc hI
 | .bool,ls,r,x,cs,hx,hc,hI=>scalar rfl hx hc hI
 | .str,ls,r,x,cs,hx,hc,hI=>scalar rfl hx hc hI
 | .fn,ls,r,x,cs,hx,hc,hI=>scalar rfl hx hc hI
 | .slice e,ls,r,x,cs,hx,hc,hI=>scalar rfl hx hc hI
 where
 scalar {t:Ty} (ht:t.flat = true) {ls r:List Sc} {x:t.den} {cs:List Value} (hx:fzs H t ls = some (x,r)) (hc:Each (RepSc H μ w I) ls cs)
   (hI:∀ s ∈ ls,∀ id ∈ s.rows,∀ b o,content H μ id b o → I' b o) :
   ∃ c1 c2,cs = c1 ++ c2 ∧ RepC w I' t x c1 ∧ Each (RepSc H μ w I) r c2 ∧ ∃ l1,ls = l1 ++ r:=by
  cases ls with
  | nil=>rw [fzs_nil ht] at hx; cases hx
  | cons s r' =>
   rw [C91 ht] at hx
   split at hx
   ·rename_i y hy
    cases hx
    cases cs with
    | nil=>exact hc.elim
    | cons v cs =>
     obtain ⟨h1,h2⟩:=hc
     exact ⟨[v],cs,rfl,(fz_rep hr hy h1 hk (hI s (by simp))).2,h2,[s],rfl⟩
   ·cases hx
theorem fzA_rep (hr:HeapRel B w0 H μ w I) (hk:Keeps w w I I') {t:Ty} {a:A1} {x:t.den} {v:Value} (hx:fzA H t a = some x) (ha:RepA1 H μ w I a v)
  (hI:∀ id ∈ a.rows,∀ b o,content H μ id b o → I' b o):RepV w I' t x v:=by
 unfold fzA at hx
 split at hx
 ·cases hx
 ·rename_i hf
  split at hx
  ·rename_i y h
   cases hx
   cases a with
   | sc s =>
    have ht:t.flat = true:=by cases hfl:t.flat <;> simp_all [A1.isAgg]
    obtain ⟨c1,c2,e1,k1,k2,_⟩:=B06 (I':=I') hr hk t h (show Each (RepSc H μ w I) [s] [v] from ⟨ha,trivial⟩) (fun s' hs'=>by
     simp [A1.cells] at hs'; subst hs'; exact hI)
    have:c2 = []:=by cases c2 with | nil=>rfl | cons _ _=>exact k2.elim
    subst this
    simp at e1
    subst e1
    exact .inl ⟨ht,k1⟩
   | agg l =>
    have ht:t.flat = false:=by cases hfl:t.flat <;> simp_all [A1.isAgg]
    obtain ⟨cs,rfl,hc⟩:=ha
    obtain ⟨c1,c2,e1,k1,k2,_⟩:=B06 (I':=I') hr hk t h hc (fun s' hs' id hid=>hI id (by simp [A1.rows]; exact ⟨s',hs',hid⟩))
    have:c2 = []:=by cases c2 with | nil=>rfl | cons _ _=>exact k2.elim
    subst this
    simp at e1
    exact .inr ⟨ht,cs,rfl,e1 ▸ k1⟩
  ·cases hx
theorem B73 (hr:HeapRel B w0 H μ w I) (hk:Keeps w w I I'):∀ (ts:List Ty) {as:List AV} {x:Args ts} {vs:List Value},fzArgs H ts as = some x → Each (RepAV H μ w I) as vs →
  (∀ id ∈ argRows as,∀ b o,content H μ id b o → I' b o) → RepArgs w I' ts x vs
 | [],[],_,[],_,_,_=>rfl
 | [],[],_,_ :: _,_,h,_=>h.elim
 | [],_ :: _,_,_,h,_,_=>by simp [fzArgs] at h
 | _ :: _,[],_,_,h,_,_=>by simp [fzArgs] at h
 | _ :: _,.tup _ :: _,_,_,h,_,_=>by simp [fzArgs] at h
 | _ :: _,.one _ :: _,_,[],_,h,_=>h.elim
 | t :: ts,.one a :: as,x,v :: vs,hx,⟨h1,h2⟩,hI=>by
  simp only [fzArgs] at hx
  split at hx
  ·rename_i y hy
   split at hx
   ·rename_i z hz
    cases hx
    exact ⟨v,vs,rfl,fzA_rep hr hk hy h1 (fun id hid=>hI id (by simp [argRows,hid])),B73 hr hk ts hz h2 (fun id hid=>hI id (by simp [argRows,hid]))⟩
   ·cases hx
  ·cases hx
end
theorem w07 {w:World} {I:Cells}:∀ (t:Ty) {x:t.den} {cs:List Value},RepC w I t x cs → Each (RepLeaf w I) (leaves t x) cs
 | .int _,_,_,h=>by subst h; exact ⟨⟨rfl,rfl⟩,trivial⟩
 | .bool,_,_,h=>by subst h; exact ⟨⟨rfl,rfl⟩,trivial⟩
 | .str,_,_,h=>by subst h; exact ⟨⟨rfl,rfl⟩,trivial⟩
 | .fn,_,_,h=>by subst h; exact ⟨⟨rfl,rfl⟩,trivial⟩
 | .unit,_,_,h=>by subst h; exact trivial
 | .slice e,x,cs,⟨base,cap,h,r⟩=>by subst h; exact ⟨⟨rfl,base,cap,rfl,r⟩,trivial⟩
 | .pair a b,x,cs,⟨c,d,h,h1,h2⟩=>by subst h; exact (w07 a h1).append (w07 b h2)
theorem Each.map {α β γ:Type} {R:γ → β → Prop} (f:α → γ):∀ {l:List α} {m:List β},Each (fun x y=>R (f x) y) l m → Each R (l.map f) m
 | [],[],_=>trivial
 | _ :: _,_ :: _,⟨h1,h2⟩=>⟨h1,h2.map f⟩
 | [],_ :: _,k=>k.elim
 | _ :: _,[],k=>k.elim
theorem Each.unmap {α β γ:Type} {R:γ → β → Prop} (f:α → γ):∀ {l:List α} {m:List β},Each R (l.map f) m → Each (fun x y=>R (f x) y) l m
 | [],[],_=>trivial
 | _ :: _,_ :: _,⟨h1,h2⟩=>⟨h1,Each.unmap f h2⟩
 | [],_ :: _,k=>k.elim
 | _ :: _,[],k=>k.elim
theorem w43 {H:List Blk} {μ:Mu} {w:World} {I:Cells} {ls:List Leaf} {cs:List Value} (h:Each (RepLeaf w I) ls cs):Each (RepSc H μ w I) (ls.map leafSc) cs :=
 Each.map leafSc (h.mono fun _ _ _ hl=>hl)
theorem toA_rep {H:List Blk} {μ:Mu} {w:World} {I:Cells} {t:Ty} {x:t.den} {v:Value} (h:RepV w I t x v):RepA1 H μ w I (toA t x) v:=by
 unfold toA
 rcases h with ⟨h1,h2⟩ | ⟨h1,cs,rfl,h2⟩
 ·rw [h1]; exact ⟨h1,h2⟩
 ·rw [h1]; exact ⟨cs,rfl,w43 (w07 t h2)⟩
theorem toAs_rep {H:List Blk} {μ:Mu} {w:World} {I:Cells}:∀ (ts:List Ty) {x:Args ts} {vs:List Value},RepArgs w I ts x vs → Each (RepA1 H μ w I) (toAs ts x) vs
 | [],_,_,h=>by subst h; exact trivial
 | t :: ts,x,_,⟨v,us,e,h1,h2⟩=>by subst e; exact ⟨toA_rep h1,toAs_rep ts h2⟩
theorem D03 {H:List Blk} {μ:Mu} {w:World} {I:Cells}:∀ (ts:List Ty) {x:Args ts} {vs:List Value},RepArgs w I ts x vs → Each (RepAV H μ w I) (argAVs ts x) vs
 | [],_,_,h=>by subst h; exact trivial
 | t :: ts,x,_,⟨v,us,e,h1,h2⟩=>by subst e; exact ⟨toA_rep h1,D03 ts h2⟩
def Tree.eval {α:Type}:Tree α → Option α
  | .ret a=>some a
  | .fail=>none
  | .ite c x y=>bif c then x.eval else y.eval
theorem Tree.run_eval {α R:Type}:∀ (t:Tree α) (k:α → Option R) (r:R),t.run k = some r → ∃ a,t.eval = some a ∧ k a = some r
  | .ret a,k,r,h=>⟨a,rfl,h⟩
  | .fail,k,r,h=>by cases h
  | .ite c x y,k,r,h=>by
    cases c with
    | true=>exact Tree.run_eval x k r h
    | false=>exact Tree.run_eval y k r h
theorem a33 {α:Type} {c:Bool} {x:Tree α} {a:α} (h:(Tree.when c x).eval = some a):c = true ∧ x.eval = some a:=by
  cases c with
  | true=>exact ⟨rfl,h⟩
  | false=>cases h
theorem D11 {i:Int} {g:Nat → TE} {e:Eff}:∀ (c j:Nat),(pickN i g c j).eval = some e → ∃ k:Nat,i = (k:Int) ∧ (g k).eval = some e
  | 0,_,h=>by cases h
  | c + 1,j,h=>by
    simp only [pickN,Tree.eval] at h
    cases hb:(i == (j:Int)) with
    | true=>rw [hb] at h; exact ⟨j,by simpa using hb,h⟩
    | false=>rw [hb] at h; exact D11 c (j + 1) h
theorem C36 {i:Int} {n:Nat} {g:Nat → TE} {e:Eff} (h:(pickOf i n g).eval = some e):(g i.toNat).eval = some e:=by
  unfold pickOf at h
  split at h
  · obtain ⟨k,rfl,hk⟩:=D11 _ _ h
    simpa using hk
  · exact h
theorem fnsA_eval {x:Option Nat} {g:Nat → TE} {e:Eff}:∀ (l:List FuncId),(fnsA x g l).eval = some e → ∃ K,x = some K ∧ (g K).eval = some e
  | [],h=>by cases h
  | K :: r,h=>by
    simp only [fnsA,Tree.eval] at h
    cases hb:(x == some K) with
    | true=>rw [hb] at h; exact ⟨K,by simpa using hb,h⟩
    | false=>rw [hb] at h; exact fnsA_eval r h
theorem Z6 {v:AV} {f:Eff} (h:(val v).eval = some f):f = ⟨v,[]⟩:=by cases h; rfl
def tdOf:TypeDesc → TD
  | .int k=>.int k
  | .bool=>.bool
  | .string=>.str
  | .func ..=>.fn
  | .pointer _=>.ptr
  | .slice e=>.slice e
  | .struct fs=>.struct (fs.toList.map fun f=>(f.offset,f.type))
  | .array n e=>.array n e
  | .interface _=>.iface
  | _=>.other
def zc:Ty → List Value
  | .int k=>[.int k 0]
  | .bool=>[.bool false]
  | .str=>[.string ByteArray.empty]
  | .fn=>[.nilFunc]
  | .slice _=>[.slice none 0 0]
  | .pair a b=>zc a ++ zc b
  | .unit=>[]
theorem w11 (w:World) (I:Cells):∀ t:Ty,RepC w I t t.dflt (zc t)
  | .int _=>rfl
  | .bool=>rfl
  | .str=>rfl
  | .fn=>rfl
  | .slice _=>⟨none,0,rfl,Nat.le_refl _,.inl rfl⟩
  | .pair a b=>⟨zc a,zc b,rfl,w11 w I a,w11 w I b⟩
  | .unit=>rfl
structure TypeOk (P:Program) (t:TypeId) (ti:TI):Prop where
  info:∃ i,P.info? t = some i ∧ i.size = ti.size ∧ i.bytes = ti.bytes ∧ i.zero = some ti.zero
  und:∃ d,P.underlying t = some d ∧ tdOf d = ti.td
  ty:ti.hasTy = true → ti.zero.cells.toList = zc ti.ty ∧ 0 < ti.size ∧ ti.ty.width = ti.size
def TypesOk (P:Program) (T:TypeId → Option TI):Prop:=∀ t ti,T t = some ti → TypeOk P t ti
def ArrsOk (T:TypeId → Option TI):Prop:=∀ t ti n e te,T t = some ti → ti.td = .array n e → T e = some te → te.hasTy = true → ti.zero.cells.toList = (List.replicate n (zc te.ty)).flatten
section
variable {P:Program}
theorem TypeOk.run_sizeOf {t:TypeId} {ti:TI} (h:TypeOk P t ti) (w:World):(sizeOf t).run P w = .ok ti.size w:=by
  obtain ⟨i,h1,h2,_⟩:=h.info
  simp [sizeOf,typeInfo,h1,h2]
theorem TypeOk.run_zero {t:TypeId} {ti:TI} (h:TypeOk P t ti) (w:World):(zeroValue t).run P w = .ok ti.zero w:=by
  obtain ⟨i,h1,_,_,h2⟩:=h.info
  simp [zeroValue,typeInfo,h1,h2]
theorem TypeOk.run_isAgg {t:TypeId} {ti:TI} (h:TypeOk P t ti) (w:World):(isAgg t).run P w = .ok ti.td.isAgg w:=by
  obtain ⟨d,h1,h2⟩:=h.und
  unfold isAgg
  rw [Sem.run_bind,run_underlying h1 w,← h2]
  cases d <;> rfl
theorem und_int {t:TypeId} {ti:TI} {k:IntKind} (h:TypeOk P t ti) (e:ti.td = .int k):P.underlying t = some (.int k):=by
  obtain ⟨d,h1,h2⟩:=h.und
  rw [e] at h2
  cases d <;> simp [tdOf] at h2
  subst h2; exact h1
theorem und_bool {t:TypeId} {ti:TI} (h:TypeOk P t ti) (e:ti.td = .bool):P.underlying t = some .bool:=by
  obtain ⟨d,h1,h2⟩:=h.und
  rw [e] at h2
  cases d <;> simp [tdOf] at h2
  exact h1
theorem B44 {t:TypeId} {ti:TI} (h:TypeOk P t ti) (e:ti.td = .str):P.underlying t = some .string:=by
  obtain ⟨d,h1,h2⟩:=h.und
  rw [e] at h2
  cases d <;> simp [tdOf] at h2
  exact h1
theorem a95 {t:TypeId} {ti:TI} {el:TypeId} (h:TypeOk P t ti) (e:ti.td = .slice el):P.underlying t = some (.slice el):=by
  obtain ⟨d,h1,h2⟩:=h.und
  rw [e] at h2
  cases d <;> simp [tdOf] at h2
  subst h2; exact h1
theorem w38 {t:TypeId} {ti:TI} {n:Nat} {el:TypeId} (h:TypeOk P t ti) (e:ti.td = .array n el):P.underlying t = some (.array n el):=by
  obtain ⟨d,h1,h2⟩:=h.und
  rw [e] at h2
  cases d <;> simp [tdOf] at h2
  obtain ⟨rfl,rfl⟩:=h2; exact h1
theorem B64 {t:TypeId} {ti:TI} {fs:List (Nat × TypeId)} (h:TypeOk P t ti) (e:ti.td = .struct fs):∃ fields:Array Field,P.underlying t = some (.struct fields) ∧ fields.toList.map (fun f=>(f.offset,f.type)) = fs:=by
  obtain ⟨d,h1,h2⟩:=h.und
  rw [e] at h2
  cases d <;> simp [tdOf] at h2
  exact ⟨_,h1,h2⟩
end
def Done (B:Nat) (w0:Base) (H:List Blk) (μ:Mu) (w:World) (I:Cells) (f:Eff) (u:Value) (w':World):Prop :=
  ∃ μ' I',HeapRel B w0 (E3 H f.ws) μ' w' I' ∧ Ext H.length H μ w I (E3 H f.ws) μ' w' I' ∧ RepAV (E3 H f.ws) μ' w' I' f.v u
section
variable {P:Program} {B:Nat} {w0:Base} {H:List Blk} {μ:Mu} {w:World} {I:Cells}
theorem S3 (hr:HeapRel B w0 H μ w I) {v:AV} {u:Value} (h:RepAV H μ w I v u):Done B w0 H μ w I ⟨v,[]⟩ u w :=
  ⟨μ,I,hr,Ext.refl _ _ _ _ _,h⟩
theorem rep_lf {t:Ty} {x:t.den} {u:Value} (h:RepAV H μ w I (.one (.sc (.lf t x))) u):t.flat = true ∧ RepC w I t x [u]:=h
theorem w44 {k:IntKind} {n:Int} {u:Value} (h:RepAV H μ w I (.int k n) u):u = .int k n:=by
  have h2:=h.2
  simp only [RepC,List.cons.injEq,and_true] at h2
  exact h2
theorem w67 {b:Bool} {u:Value} (h:RepAV H μ w I (.bool b) u):u = .bool b:=by
  have h2:=h.2
  simp only [RepC,List.cons.injEq,and_true] at h2
  exact h2
theorem w74 {s:ByteArray} {u:Value} (h:RepAV H μ w I (.one (.sc (.lf .str s))) u):u = .string s:=by
  have h2:=h.2
  simp only [RepC,List.cons.injEq,and_true] at h2
  exact h2
theorem w18 (k:IntKind) (n:Int):RepAV H μ w I (.int k n) (.int k n):=⟨rfl,rfl⟩
theorem w73 (b:Bool):RepAV H μ w I (.bool b) (.bool b):=⟨rfl,rfl⟩
theorem mk_str (s:ByteArray):RepAV H μ w I (.one (.sc (.lf .str s))) (.string s):=⟨rfl,rfl⟩
theorem intOp_ok (hr:HeapRel B w0 H μ w I) {op:BinOp} {k:IntKind} {x y:Int} {f:Eff} (hs:op ≠ .shl) (hs':op ≠ .shr) (h:(intOp op k x y).eval = some f) (t:TypeId) :
    ∃ u,(binOp op t (.int k x) (.int k y)).run P w = .ok u w ∧ Done B w0 H μ w I f u w:=by
  cases op <;> simp only [intOp] at h <;> first
    | (exact absurd rfl hs)
    | (exact absurd rfl hs')
    | (cases Z6 h
       refine ⟨_,?_,S3 hr (w18 _ _)⟩
       simp [binOp,Op.intArith,Op.intBits]; done)
    | (cases Z6 h
       refine ⟨_,?_,S3 hr (w73 _)⟩
       simp [binOp,Op.intCmp]; done)
    | (obtain ⟨h1,h2⟩:=a33 h
       cases Z6 h2
       have h3:¬ y = 0:=by simpa using h1
       exact ⟨_,by simp [binOp,Op.intDiv,h3],S3 hr (w18 _ _)⟩)
    | (simp [Tree.eval] at h; done)
theorem C90 (hr:HeapRel B w0 H μ w I) {op:BinOp} {k k':IntKind} {x y:Int} {f:Eff} (h:(shiftOp op k x y).eval = some f) (t:TypeId) :
    ∃ u,(binOp op t (.int k x) (.int k' y)).run P w = .ok u w ∧ Done B w0 H μ w I f u w:=by
  cases op <;> simp only [shiftOp] at h <;> first
    | (obtain ⟨h1,h2⟩:=a33 h; cases h2
       have h3:¬ y < 0:=by simpa using h1
       exact ⟨_,by simp [binOp,Op.shift,h3],S3 hr ⟨rfl,rfl⟩⟩)
    | cases h
theorem strOp_ok (hr:HeapRel B w0 H μ w I) {op:BinOp} {x y:ByteArray} {f:Eff} (h:(strOp op x y).eval = some f) (t:TypeId) :
    ∃ u,(binOp op t (.string x) (.string y)).run P w = .ok u w ∧ Done B w0 H μ w I f u w:=by
  cases op <;> simp only [strOp] at h <;> first
    | (cases Z6 h; exact ⟨_,rfl,S3 hr ⟨rfl,rfl⟩⟩)
    | (obtain ⟨h1,h2⟩:=a33 h
       cases Z6 h2
       have h3:x.size + y.size ≤ lim:=of_decide_eq_true h1
       unfold lim at h3
       have h4:¬ (9223372036854775807 < ((x.size:Int) + (y.size:Int))):=by omega
       exact ⟨.string (x ++ y),by simp [binOp,Op.stringOp,IntKind.max,IntKind.signed,IntKind.bits,h4],S3 hr (mk_str _)⟩)
    | (simp [Tree.eval] at h; done)
theorem B20 {op:BinOp} {t:TypeId} {x y:Operand} {a b:Value} (ha:∀ c,a ≠ .agg c) (hn:a ≠ .nilIface):(eqGuard op t x y a b).run P w = .ok () w:=by
  unfold eqGuard
  by_cases h:op = .eql ∨ op = .neq
  · rcases h with rfl | rfl <;> cases a <;> first
    | exact absurd rfl hn
    | exact absurd rfl (ha _)
    | rfl
  · cases op <;> first
      | (exact absurd (.inl rfl) h)
      | (exact absurd (.inr rfl) h)
      | rfl
theorem binOp_ok {T:TypeId → Option TI} (hT:TypesOk P T) (hr:HeapRel B w0 H μ w I) {op:BinOp} {t:TypeId} {x y:AV} {f:Eff} {a b:Value}
    (h:(binOpA T op t x y).eval = some f) (ha:RepAV H μ w I x a) (hb:RepAV H μ w I y b) (p q:Operand) :
    ∃ u,(do eqGuard op t p q a b; binOp op t a b).run P w = .ok u w ∧ Done B w0 H μ w I f u w:=by
  have fin:∀ {u:Value},(∀ c,a ≠ .agg c) → a ≠ .nilIface → (binOp op t a b).run P w = .ok u w → (do eqGuard op t p q a b; binOp op t a b).run P w = .ok u w:=by
    intro u h1 h2 h3
    rw [Sem.run_bind,B20 h1 h2]
    exact h3
  unfold binOpA at h
  split at h
  · rename_i k m k' n
    cases w44 ha; cases w44 hb
    split at h
    · obtain ⟨u,h1,h2⟩:=C90 (P:=P) (k':=k') hr h t
      exact ⟨u,fin (by simp) (by simp) h1,h2⟩
    · obtain ⟨u,h1,h2⟩:=C90 (P:=P) (k':=k') hr h t
      exact ⟨u,fin (by simp) (by simp) h1,h2⟩
    · rename_i hs hs'
      split at h
      · rename_i hk
        subst hk
        obtain ⟨u,h1,h2⟩:=intOp_ok (P:=P) hr (fun e=>hs e) (fun e=>hs' e) h t
        exact ⟨u,fin (by simp) (by simp) h1,h2⟩
      · cases h
  · cases w74 ha; cases w74 hb
    obtain ⟨u,h1,h2⟩:=strOp_ok (P:=P) hr h t
    exact ⟨u,fin (by simp) (by simp) h1,h2⟩
  · rename_i m n
    cases w67 ha; cases w67 hb
    split at h
    · rename_i ti hti
      split at h
      · rename_i htd
        cases h
        refine ⟨.bool (m == n),fin (by simp) (by simp) ?_,S3 hr (w73 _)⟩
        exact run_eql_bool w t m n (und_bool (hT t ti hti) htd)
      · rename_i htd
        cases h
        refine ⟨.bool (!(m == n)),fin (by simp) (by simp) ?_,S3 hr (w73 _)⟩
        exact run_neq_bool w t m n (und_bool (hT t ti hti) htd)
      · cases h
    · cases h
  · cases h
theorem unOp_ok (hr:HeapRel B w0 H μ w I) {op:UnOp} {x:AV} {f:Eff} {a:Value} (h:(unOpA op x).eval = some f) (ha:RepAV H μ w I x a) :
    ∃ u,(Op.unary op a).run P w = .ok u w ∧ Done B w0 H μ w I f u w:=by
  unfold unOpA at h
  split at h
  · cases w44 ha; cases h
    exact ⟨_,rfl,S3 hr ⟨rfl,rfl⟩⟩
  · cases w67 ha; cases h
    exact ⟨_,rfl,S3 hr ⟨rfl,rfl⟩⟩
  · cases h
theorem extract_ok (hr:HeapRel B w0 H μ w I) {x:AV} {i:Nat} {f:Eff} {a:Value} (h:(extractA x i).eval = some f) (ha:RepAV H μ w I x a) :
    ∃ u,(Instr.extract a i).run P w = .ok u w ∧ Done B w0 H μ w I f u w:=by
  unfold extractA at h
  split at h
  · rename_i l
    split at h
    · rename_i y hy
      cases h
      obtain ⟨vs,rfl,hvs⟩:=ha
      obtain ⟨u,hu,hru⟩:=hvs.get i y hy
      exact ⟨u,by simp only [Instr.extract]; rw [show vs[i]? = some u by simpa using hu]; rfl,S3 hr hru⟩
    · cases h
  · cases h
theorem C95:∀ (l:List AV) {k:IntKind} {ns:List Int} {vs:List Value},minmaxA.intsOf l = some (k,ns) → Each (RepAV H μ w I) l vs → vs = ns.map (Value.int k)
  | [],_,_,_,h,_=>by simp [minmaxA.intsOf] at h
  | [x],k,ns,[v],h,⟨h1,_⟩=>by
    cases x with
    | tup l=>simp [minmaxA.intsOf] at h
    | one a =>
      cases a with
      | agg l=>simp [minmaxA.intsOf] at h
      | sc s =>
        cases s with
        | lf t y =>
          cases t with
          | int k' =>
            simp only [minmaxA.intsOf,Option.some.injEq,Prod.mk.injEq] at h
            obtain ⟨rfl,rfl⟩:=h
            cases w44 h1
            rfl
          | _=>simp [minmaxA.intsOf] at h
        | _=>simp [minmaxA.intsOf] at h
  | x :: y :: r,k,ns,v :: vs,h,⟨h1,h2⟩=>by
    cases x with
    | tup l=>simp [minmaxA.intsOf] at h
    | one a =>
      cases a with
      | agg l=>simp [minmaxA.intsOf] at h
      | sc s =>
        cases s with
        | lf t z =>
          cases t with
          | int k' =>
            simp only [minmaxA.intsOf] at h
            split at h
            · rename_i k2 l2 hl2
              split at h
              · rename_i hk
                subst hk
                simp only [Option.some.injEq,Prod.mk.injEq] at h
                obtain ⟨rfl,rfl⟩:=h
                cases w44 h1
                rw [C95 (y :: r) hl2 h2]
                rfl
              · cases h
            · cases h
          | _=>simp [minmaxA.intsOf] at h
        | _=>simp [minmaxA.intsOf] at h
  | [_],_,_,_ :: _ :: _,_,⟨_,h⟩=>h.elim
  | _ :: _,_,_,[],_,h=>h.elim
theorem C92 (k:IntKind):∀ (l:List Int) (a:Int),((l.map (Value.int k)).foldlM Builtin.max2 (.int k a)).run P w = .ok (.int k (l.foldl (fun x y=>if y > x then y else x) a)) w
  | [],a=>rfl
  | x :: l,a=>by
    simp only [List.map_cons,List.foldlM_cons,Sem.run_bind,Builtin.max2,Sem.run_pure,Result.andThen_ok,List.foldl_cons]
    exact C92 k l _
theorem C98 (k:IntKind):∀ (l:List Int) (a:Int),((l.map (Value.int k)).foldlM Builtin.min2 (.int k a)).run P w = .ok (.int k (l.foldl (fun x y=>if y < x then y else x) a)) w
  | [],a=>rfl
  | x :: l,a=>by
    simp only [List.map_cons,List.foldlM_cons,Sem.run_bind,Builtin.min2,Sem.run_pure,Result.andThen_ok,List.foldl_cons]
    exact C98 k l _
theorem minmax_ok (hr:HeapRel B w0 H μ w I) {isMax:Bool} {l:List AV} {f:Eff} {vs:Array Value} (h:(minmaxA isMax l).eval = some f) (hv:Each (RepAV H μ w I) l vs.toList)
    (ts:Array TypeId) (t:TypeId):∃ u,(if isMax then Builtin.max_ ts t vs else Builtin.min_ ts t vs).run P w = .ok u w ∧ Done B w0 H μ w I f u w:=by
  cases l with
  | nil=>simp [minmaxA,Tree.eval] at h
  | cons x r =>
    simp only [minmaxA] at h
    split at h
    · rename_i k a ns hns
      cases h
      have:=C95 (x :: r) hns hv
      cases isMax with
      | true =>
        refine ⟨_,?_,S3 hr (w18 k _)⟩
        simp only [if_true,Builtin.max_,this,List.map_cons]
        exact C92 k ns a
      | false =>
        refine ⟨_,?_,S3 hr (w18 k _)⟩
        simp only [Bool.false_eq_true,if_false,Builtin.min_,this,List.map_cons]
        exact C98 k ns a
    · cases h
end
section
variable {P:Program} {T:TypeId → Option TI} {B:Nat} {w0:Base} {H:List Blk} {μ:Mu} {w:World} {I:Cells}
theorem scOf_rep (v:Value):RepSc H μ w I (scOf v) v:=by
 unfold scOf
 split
 ·exact ⟨rfl,rfl⟩
 ·exact ⟨rfl,rfl⟩
 ·exact ⟨rfl,rfl⟩
 ·exact ⟨rfl,rfl⟩
 ·rename_i fn a b
  split
  ·rename_i h
   rw [Array.eq_empty_of_size_eq_zero h.1,Array.eq_empty_of_size_eq_zero h.2]
   exact ⟨rfl,rfl⟩
  ·trivial
 ·split
  ·rename_i h
   rw [h.1,h.2]
   rfl
  ·trivial
 ·rfl
 ·trivial
theorem w84:∀ l:List Value,Each (RepSc H μ w I) (l.map scOf) l
 | []=>trivial
 | v :: l=>⟨scOf_rep v,w84 l⟩
theorem avOf_rep (v:Value):RepAV H μ w I (avOf v) v:=by
 unfold avOf
 split
 ·exact ⟨_,rfl,w84 _⟩
 ·exact scOf_rep v
theorem w80 {a:A1} {v:Value} (hw:a.whole = true) (h:RepA1 H μ w I a v):Each (RepSc H μ w I) a.cells v.cells.toList:=by
 cases a with
 | sc s =>
  have h1:=RepSc.one hw h
  rw [cells_one h1]
  exact ⟨h,trivial⟩
 | agg l =>
  obtain ⟨cs,rfl,hc⟩:=h
  exact hc
theorem mkPtr {id off b n:Nat} {l:List Sc} (h:H[id]? = some (.cells l)) (hm:μ id = some (b,n)):RepAV H μ w I (.sc (.ptr id off)) (.pointer (some ⟨b,off,none⟩)) :=
 ⟨⟨l,h⟩,b,n,hm,rfl⟩
theorem alloc_ok (hT:TypesOk P T) (hr:HeapRel B w0 H μ w I) {nid:Nat} (hf:H[nid]? = some .free) {t:TypeId} {ti:TI} (ht:T t = some ti) :
  ∃ u w',(Instr.alloc t true (.tuple #[])).run P w = .ok u w' ∧ Done B w0 H μ w I ⟨.sc (.ptr nid 0),[(nid,.cells (zeroCells ti))]⟩ u w':=by
 obtain ⟨h1,h2⟩:=hr.lay_cells hf (l:=zeroCells ti) (c:=ti.zero.cells) t (w84 _)
 refine ⟨.pointer (some ⟨w.heap.size,0,none⟩),w.alloc (.cells ti.zero.cells t),?_,_,_,h1,h2,?_⟩
 ·simp [Instr.alloc,(hT t ti ht).run_zero,newVar,newRow]
 ·exact mkPtr (l:=zeroCells ti) (a44 (List.getElem?_eq_some_iff.1 hf).1 _) (Z4 _ _ _)
theorem B91 {e:Ty} (w:World) (I:Cells):∀ n:Nat,RepLs (RepC w I e) (List.replicate n e.dflt) (List.replicate n (zc e)).flatten
 | 0=>rfl
 | n + 1=>⟨zc e,_,rfl,w11 w I e,B91 w I n⟩
theorem allocA_ok (hT:TypesOk P T) (hA:ArrsOk T) (hr:HeapRel B w0 H μ w I) {nid:Nat} (hf:H[nid]? = some .free) {t:TypeId} {f:Eff} (h:(allocA T nid t).eval = some f) :
  ∃ u w',(Instr.alloc t true (.tuple #[])).run P w = .ok u w' ∧ Done B w0 H μ w I f u w':=by
 unfold allocA at h
 split at h
 ·rename_i ti hti
  split at h
  ·rename_i n e htd
   split at h
   ·rename_i te hte
    split at h
    ·rename_i hc
     cases h
     have hz:=hA t ti n e te hti htd hte hc.2
     have hls:=B91 (e:=te.ty) w I n
     obtain ⟨h1,h2⟩:=hr.lay_row hf true 0 (c:=ti.zero.cells) (vs:=(List.replicate n (zc te.ty)).flatten) t hls (by rw [hz]; exact List.take_length)
     have hset:=a44 (List.getElem?_eq_some_iff.1 hf).1 (Blk.row te.ty true 0 (List.replicate n te.ty.dflt))
     refine ⟨.pointer (some ⟨w.heap.size,0,none⟩),w.alloc (.cells ti.zero.cells t),?_,_,_,h1,h2,?_⟩
     ·simp [Instr.alloc,(hT t ti hti).run_zero,newVar,newRow]
     ·exact ⟨⟨te.ty,true,0,_,hset,Nat.le_refl _,fun _=>⟨_,_,Z4 _ _ _,by simp⟩⟩,_,rfl⟩
    ·cases h; exact alloc_ok hT hr hf hti
   ·cases h; exact alloc_ok hT hr hf hti
  ·cases h; exact alloc_ok hT hr hf hti
 ·cases h
theorem box_ok (hr:HeapRel B w0 H μ w I) {nid:Nat} (hf:H[nid]? = some .free) (t:TypeId) {a:A1} {v:Value} (hw:a.whole = true) (ha:RepA1 H μ w I a v) :
  ∃ u w',(Instr.box t v).run P w = .ok u w' ∧ Done B w0 H μ w I ⟨.sc (.ptr nid 0),[(nid,.cells a.cells)]⟩ u w':=by
 obtain ⟨h1,h2⟩:=hr.lay_cells hf (l:=a.cells) (c:=v.cells) t (w80 hw ha)
 refine ⟨.pointer (some ⟨w.heap.size,0,none⟩),w.alloc (.cells v.cells t),?_,_,_,h1,h2,?_⟩
 ·simp [Instr.box,newVar,newRow]
 ·exact mkPtr (l:=a.cells) (a44 (List.getElem?_eq_some_iff.1 hf).1 _) (Z4 _ _ _)
def putAll (cs:List Value) (off:Nat):List Value → List Value
 | []=>cs
 | v :: r=>putAll (cs.set off v) (off + 1) r
theorem w13:∀ (l:List Value) (cs:List Value) (off:Nat),(putAll cs off l).length = cs.length
 | [],_,_=>rfl
 | v :: r,cs,off=>by simp only [putAll]; rw [w13]; simp
theorem B98:∀ (l:List Sc) (cs:List Sc) (off:Nat),(place cs off l).length = cs.length
 | [],_,_=>rfl
 | v :: r,cs,off=>by simp only [place]; rw [B98]; simp
theorem B40:∀ (l:List Value) (k off:Nat) (cs:Array Value),
  ((l.zipIdx k).foldl (fun (cs:Array Value) (p:Value × Nat)=>cs.setIfInBounds (off + p.2) p.1) cs).toList = putAll cs.toList (off + k) l
 | [],_,_,_=>rfl
 | v :: r,k,off,cs=>by
  simp only [List.zipIdx_cons,List.foldl_cons,putAll]
  rw [B40 r (k + 1) off]
  simp [Nat.add_assoc]
theorem place_rep {R:Sc → Value → Prop}:∀ {l:List Sc} {vs:List Value},Each R l vs → ∀ {cs:List Sc} {C:List Value},Each R cs C → ∀ off,Each R (place cs off l) (putAll C off vs)
 | [],[],_,_,_,hc,_=>hc
 | s :: l,v :: vs,⟨h1,h2⟩,cs,C,hc,off=>place_rep h2 (hc.set off s v h1) (off + 1)
 | [],_ :: _,k,_,_,_,_=>k.elim
 | _ :: _,[],k,_,_,_,_=>k.elim
theorem C03 {loc:Nat → Option (Nat × Nat)} {pl:Nat → Option (Nat × Nat)} (hp:∀ i p,loc i = some p → pl i = some p) :
  ∀ (ps:List (Nat × AV)) {vs:List (Nat × Value)} {cs l:List Sc} {C:Array Value},fillA loc cs ps = some l → Each (RepSc H μ w I) cs C.toList →
   Each (fun (p:Nat × AV) (q:Nat × Value)=>p.1 = q.1 ∧ RepAV H μ w I p.2 q.2) ps vs → ∃ C',Instr.fill pl C vs = some C' ∧ Each (RepSc H μ w I) l C'.toList
 | [],[],_,_,C,h,hc,_=>by simp only [fillA] at h; cases h; exact ⟨C,rfl,hc⟩
 | [],_ :: _,_,_,_,_,_,hv=>hv.elim
 | _ :: _,[],_,_,_,_,_,hv=>hv.elim
 | (i,.tup _) :: _,_ :: _,_,_,_,h,_,_=>by simp [fillA] at h
 | (i,.one a) :: r,(j,v) :: vs,cs,l,C,h,hc,⟨⟨h1,h2⟩,h3⟩=>by
  simp only at h1
  subst h1
  simp only [fillA] at h
  split at h
  ·rename_i off size hloc
   split at h
   ·rename_i hcond
    obtain ⟨hw,hs,hl⟩:=hcond
    have hcells:=w80 hw h2
    have hlen:=hcells.len
    have hcl:=hc.len
    simp only [Instr.fill,hp i _ hloc]
    have hb:(v.cells.size ≠ size || off + v.cells.size > C.size) = false:=by
     simp only [Array.length_toList] at hlen hcl
     simp
     omega
    rw [if_neg (by rw [hb]; simp)]
    have hnew:Each (RepSc H μ w I) (place cs off a.cells) ((v.cells.zipIdx.foldl (fun (cs:Array Value) (p:Value × Nat)=>cs.setIfInBounds (off + p.2) p.1) C)).toList:=by
     rw [← Array.foldl_toList,Array.toList_zipIdx,B40 v.cells.toList 0 off C]
     exact place_rep hcells hc off
    exact C03 hp r h hnew h3
   ·cases h
  ·cases h
theorem C34 (hT:TypesOk P T):∀ (fs:List Field),((fs.map fun f=>(f.offset,f.type)).all fun p=>(T p.2).isSome) = true →
  ∃ places:List (Nat × Nat),fs.mapM (fun f=>(P.info? f.type).map fun i=>(f.offset,i.size)) = some places ∧
   ∀ i p,locOf T (fs.map fun f=>(f.offset,f.type)) i = some p → places[i]? = some p
 | [],_=>⟨[],rfl,fun i p h=>by simp [locOf] at h⟩
 | f :: fs,h=>by
  simp only [List.map_cons,List.all_cons,Bool.and_eq_true] at h
  obtain ⟨h1,h2⟩:=h
  obtain ⟨places,k1,k2⟩:=C34 hT fs h2
  obtain ⟨ti,hti⟩:=Option.isSome_iff_exists.1 h1
  obtain ⟨inf,hi,hs,_⟩:=(hT _ _ hti).info
  refine ⟨(f.offset,ti.size) :: places,?_,fun i p hp=>?_⟩
  ·simp [List.mapM_cons,hi,k1,hs]
  ·cases i with
   | zero =>
    simp only [locOf,List.map_cons,List.getElem?_cons_zero,hti] at hp
    cases hp; rfl
   | succ i =>
    have:locOf T (fs.map fun f=>(f.offset,f.type)) i = some p:=by simpa [locOf] using hp
    simpa using k2 i p this
theorem build_ok (hT:TypesOk P T) (hr:HeapRel B w0 H μ w I) {t:TypeId} {ps:List (Nat × AV)} {vs:Array (Nat × Value)} {f:Eff} (h:(buildA T t ps).eval = some f)
  (hv:Each (fun (p:Nat × AV) (q:Nat × Value)=>p.1 = q.1 ∧ RepAV H μ w I p.2 q.2) ps vs.toList) :
  ∃ u,(Instr.build t vs).run P w = .ok u w ∧ Done B w0 H μ w I f u w:=by
 unfold buildA at h
 split at h
 ·rename_i ti hti
  obtain ⟨inf,hi,_,_,hz⟩:=(hT t ti hti).info
  split at h
  ·rename_i fs htd
   split at h
   ·cases h
   ·rename_i hall
    have hall':(fs.all fun p=>(T p.2).isSome) = true:=by
     cases hq:(fs.all fun p=>(T p.2).isSome) with
     | true=>rfl
     | false=>rw [hq] at hall; exact absurd rfl hall
    split at h
    ·rename_i l hl
     cases Z6 h
     obtain ⟨fields,hu,hfs⟩:=B64 (hT t ti hti) htd
     subst hfs
     obtain ⟨places,k1,k2⟩:=C34 hT fields.toList hall'
     obtain ⟨C',e1,e2⟩:=C03 (pl:=(places.toArray[·]?)) (fun i p hp=>by simpa using k2 i p hp) ps hl (w84 _) hv
     have hb:P.built t vs.toList = some C':=by
      unfold Program.built
      simp only [hi,hu,hz,k1,e1]
     exact ⟨.agg C',run_build w t vs C' hb,S3 hr ⟨C',rfl,e2⟩⟩
    ·cases h
  ·rename_i n e htd
   split at h
   ·rename_i te hte
    split at h
    ·rename_i l hl
     cases Z6 h
     obtain ⟨infe,hie,hse,_⟩:=(hT e te hte).info
     obtain ⟨C',e1,e2⟩:=C03 (pl:=fun i=>some (i * te.size,te.size)) (fun i p hp=>hp) ps hl (w84 _) hv
     have hb:P.built t vs.toList = some C':=by
      unfold Program.built
      simp only [hi,w38 (hT t ti hti) htd,hz,hie,hse,e1]
     exact ⟨.agg C',run_build w t vs C' hb,S3 hr ⟨C',rfl,e2⟩⟩
    ·cases h
   ·cases h
  ·cases h
 ·cases h
theorem a93 (b o n:Nat):(⟨b,o,none⟩:Addr).add n = ⟨b,o + n,none⟩:=by unfold Addr.add; split <;> simp_all
theorem AtCells.drop {b o:Nat} {vs:List Value} (h:AtCells w I b o vs) (n:Nat):AtCells w I b (o + n) (vs.drop n):=by
 intro j v hj
 rw [List.getElem?_drop] at hj
 have:=h (n + j) v hj
 rwa [← Nat.add_assoc] at this
theorem rptr_field {ls:List Leaf} {a:Value} (off:Nat) (h:RepSc H μ w I (.rptr ls) a):∃ b o,a = .pointer (some ⟨b,o,none⟩) ∧ RepSc H μ w I (.rptr (ls.drop off)) (.pointer (some ⟨b,o + off,none⟩)):=by
 obtain ⟨b,o,vs,rfl,h1,h2⟩:=h
 exact ⟨b,o,rfl,b,o + off,vs.drop off,rfl,h1.drop off,h2.drop off⟩
theorem fieldAddr_ok (hT:TypesOk P T) (hr:HeapRel B w0 H μ w I) {s:TypeId} {x:AV} {i:Nat} {f:Eff} {a:Value} (h:(w42 T H s x i).eval = some f) (ha:RepAV H μ w I x a) :
  ∃ u,(Instr.fieldAt s a i).run P w = .ok u w ∧ Done B w0 H μ w I f u w:=by
 unfold w42 at h
 split at h
 ·rename_i ti hti
  split at h
  ·rename_i fs htd
   obtain ⟨fields,hu,hfs⟩:=B64 (hT s ti hti) htd
   subst hfs
   split at h
   ·rename_i off ft hfi
    split at h
    ·rename_i tf htf
     split at h
     ·cases h
     ·rename_i hsz
      have hfield:∃ fl:Field,fields[i]? = some fl ∧ fl.offset = off ∧ fl.type = ft:=by
       rw [List.getElem?_map] at hfi
       cases hq:fields.toList[i]? with
       | none=>rw [hq] at hfi; cases hfi
       | some fl =>
        rw [hq] at hfi
        simp only [Option.map_some,Option.some.injEq,Prod.mk.injEq] at hfi
        exact ⟨fl,by simpa using hq,hfi.1,hfi.2⟩
      obtain ⟨fl,hfl,hoff,hty⟩:=hfield
      have run:∀ b o,(Instr.fieldAt s (.pointer (some ⟨b,o,none⟩)) i).run P w = .ok (.pointer (some ⟨b,o + off,none⟩)) w:=by
       intro b o
       have hp:(fieldPlace ⟨b,o,none⟩ fl).run P w = .ok ⟨b,o + off,none⟩ w:=by
        simp [fieldPlace,hty,(hT ft tf htf).run_sizeOf,hsz,hoff,a93]
       simp [Instr.fieldAt,run_underlying hu,hfl,Instr.sureAddr,hp]
      split at h
      ·cases Z6 h
       obtain ⟨⟨l,hl⟩,b,n,hm,rfl⟩:=ha
       exact ⟨_,run b _,S3 hr ⟨⟨l,hl⟩,b,n,hm,rfl⟩⟩
      ·rename_i id ver j o
       split at h
       ·rename_i e x vr l hid
        split at h
        ·rename_i hv
         cases Z6 h
         obtain ⟨⟨e2,x2,vr2,l2,h1,h2,h3⟩,p,hp⟩:=ha
         rw [hid] at h1; cases h1
         obtain ⟨b,n,hm,hb⟩:=h3 hv.symm
         subst hb
         refine ⟨_,run b _,S3 hr ⟨⟨e,x,vr,l,hid,h2,fun _=>⟨b,n,hm,by rw [Nat.add_assoc]⟩⟩,_,rfl⟩⟩
        ·cases h
       ·cases h
      ·cases Z6 h
       obtain ⟨b,o,rfl,hrep⟩:=rptr_field (H:=H) (μ:=μ) off ha
       exact ⟨_,run b o,S3 hr hrep⟩
      ·cases h
    ·cases h
   ·cases h
  ·cases h
 ·cases h
theorem nilCheck_run {p:Addr}:(execOp (fun _=>.pointer (some p)) ⟨none,.nilCheck (.tmp 0),0,"",#[],none⟩).run P w = .ok (.value (.pointer (some p))) w:=rfl
theorem w54 {x:AV} {n:Int} {v:Value} (h:intAV x = some n) (hv:RepAV H μ w I x v):∃ k,v = .int k n:=by
 unfold intAV at h
 split at h
 ·cases h
  exact ⟨_,w44 hv⟩
 ·cases h
theorem flatL_append (e:Ty):∀ (l m:List e.den),flatL e (l ++ m) = flatL e l ++ flatL e m
 | [],_=>rfl
 | x :: l,m=>by simp only [List.cons_append,flatL]; rw [flatL_append,List.append_assoc]
theorem w62 {e:Ty}:∀ {l:List e.den} {vs:List Value} (i:Nat) (hi:i < l.length),RepLs (RepC w I e) l vs →
  RepC w I e l[i] ((vs.drop (i * e.width)).take e.width)
 | x :: l,_,0,_,⟨a,b,h,h1,_⟩=>by
  subst h
  have:=h1.len
  simp only [Nat.zero_mul,List.drop_zero,List.getElem_cons_zero]
  rw [← this,List.take_left]
  exact h1
 | x :: l,_,i + 1,hi,⟨a,b,h,h1,h2⟩=>by
  subst h
  have hw:=h1.len
  have:=w62 i (by simpa using hi) h2
  simp only [List.getElem_cons_succ]
  have e1:(i + 1) * e.width = a.length + i * e.width:=by rw [hw,Nat.add_mul]; omega
  rw [e1,List.drop_append,List.drop_eq_nil_of_le (by omega),List.nil_append,Nat.add_sub_cancel_left]
  exact this
theorem AtCells.take {b o:Nat} {vs:List Value} (h:AtCells w I b o vs) (n:Nat):AtCells w I b o (vs.take n):=by
 intro j v hj
 rw [List.getElem?_take] at hj
 split at hj
 ·exact h j v hj
 ·cases hj
theorem getD_eq {e:Ty} {l:List e.den} {i:Nat} (hi:i < l.length):l.getD i e.dflt = l[i]:=by
 simp [List.getD,hi]
theorem indexAddr_ok (hT:TypesOk P T) (hr:HeapRel B w0 H μ w I) {t:TypeId} {x ix:AV} {f:Eff} {a c:Value} (h:(w40 T H t x ix).eval = some f)
  (ha:RepAV H μ w I x a) (hc:RepAV H μ w I ix c):∃ u,(Instr.indexAt t a c).run P w = .ok u w ∧ Done B w0 H μ w I f u w:=by
 unfold w40 at h
 split at h
 ·rename_i ti i hti hi
  obtain ⟨k,rfl⟩:=w54 hi hc
  have hslice:∀ (el:TypeId) (te:TI),ti.td = .slice el → T el = some te → ∀ (b o len cap:Nat),0 ≤ i → i < (len:Int) →
    (Instr.indexAt t (.slice (some ⟨b,o,none⟩) len cap) (.int k i)).run P w = .ok (.pointer (some ⟨b,o + i.toNat * te.size,none⟩)) w:=by
   intro el te htd hte b o len cap h0 h1
   simp [Instr.indexAt,asIntOf,run_underlying (a95 (hT t ti hti) htd),h0,h1,(hT el te hte).run_sizeOf,a93]
  split at h
  ·rename_i el e l htd
   split at h
   ·rename_i te hte
    split at h
    ·rename_i hty
     obtain ⟨hh,h2⟩:=a33 h
     cases Z6 h2
     simp only [Bool.and_eq_true,decide_eq_true_eq] at hh
     have hlt:i.toNat < List.length l:=by omega
     obtain ⟨_,base,cap,hb,_,hx⟩:=ha
     simp only [List.cons.injEq,and_true] at hb
     rcases hx with hx | ⟨b,o,vs,rfl,hl,hat⟩
     ·subst hx; simp at hlt
     ·subst hb
      have hw:e.width = te.size:=by rw [hty.2]; exact ((hT el te hte).ty hty.1).2.2
      refine ⟨_,hslice el te htd hte b o _ cap hh.1 hh.2,S3 hr ⟨b,o + i.toNat * te.size,(vs.drop (i.toNat * e.width)).take e.width,rfl,?_,?_⟩⟩
      ·rw [← hw]; exact (hat.drop _).take _
      ·have:=w62 (e:=e) i.toNat hlt hl
       rw [getD_eq hlt]
       exact w07 e this
    ·cases h
   ·cases h
  ·rename_i el id ver htd
   split at h
   ·rename_i te hte
    split at h
    ·rename_i e x vr l hid
     split at h
     ·rename_i hv
      obtain ⟨hh,h2⟩:=a33 h
      cases Z6 h2
      simp only [Bool.and_eq_true,decide_eq_true_eq] at hh
      obtain ⟨⟨e2,x2,vr2,l2,h1,h2,h3⟩,_⟩:=ha
      rw [hid] at h1; cases h1
      have hown:=h3 hv.1.symm
      cases hm:μ id with
      | none=>rw [hm] at hown; rw [hown.1] at hh; simp at hh; omega
      | some p =>
       obtain ⟨b,n⟩:=p
       rw [hm] at hown
       obtain ⟨cap,rfl,_⟩:=hown
       have hw:e.width = te.size:=by rw [hv.2.2]; exact ((hT el te hte).ty hv.2.1).2.2
       refine ⟨_,hslice el te htd hte b 0 _ cap hh.1 hh.2,S3 hr ⟨⟨e,x,vr,l,hid,h2,fun _=>⟨b,n,hm,by rw [hw]; first | rfl | simp⟩⟩,_,rfl⟩⟩
     ·cases h
    ·cases h
   ·cases h
  ·rename_i n el id off htd
   split at h
   ·rename_i te hte
    obtain ⟨hh,h2⟩:=a33 h
    cases Z6 (C36 h2)
    simp only [Bool.and_eq_true,decide_eq_true_eq] at hh
    obtain ⟨⟨l,hl⟩,b,m,hm,rfl⟩:=ha
    refine ⟨.pointer (some ⟨b,off + i.toNat * te.size,none⟩),?_,S3 hr ⟨⟨l,hl⟩,b,m,hm,rfl⟩⟩
    simp [Instr.indexAt,asIntOf,run_underlying (w38 (hT t ti hti) htd),hh.1,hh.2,(hT el te hte).run_sizeOf,a93,Instr.sureAddr]
   ·cases h
  ·rename_i n el id ver htd
   split at h
   ·rename_i te hte
    split at h
    ·rename_i e x vr l hid
     split at h
     ·rename_i hv
      obtain ⟨hh,h2⟩:=a33 h
      cases Z6 h2
      simp only [Bool.and_eq_true,decide_eq_true_eq] at hh
      obtain ⟨⟨e2,x2,vr2,l2,h1,h2,h3⟩,_⟩:=ha
      rw [hid] at h1; cases h1
      obtain ⟨b,m,hm,rfl⟩:=h3 hv.1.symm
      have hw:e.width = te.size:=by rw [hv.2.2]; exact ((hT el te hte).ty hv.2.1).2.2
      refine ⟨.pointer (some ⟨b,i.toNat * te.size,none⟩),?_,S3 hr ⟨⟨e,x,vr,l,hid,h2,fun _=>⟨b,m,hm,by rw [hw]; first | rfl | simp⟩⟩,_,rfl⟩⟩
      simp [Instr.indexAt,asIntOf,run_underlying (w38 (hT t ti hti) htd),hh.1,hh.2,(hT el te hte).run_sizeOf,a93,Instr.sureAddr]
     ·cases h
    ·cases h
   ·cases h
  ·cases h
 ·cases h
end
section
variable {P:Program} {T:TypeId → Option TI} {B:Nat} {w0:Base} {H:List Blk} {μ:Mu} {w:World} {I:Cells}
theorem run_load_cell {b o:Nat} {v:Value} (h:w.cell? ⟨b,o,none⟩ = some v):(load ⟨b,o,none⟩).run P w = .ok v w:=by
 simp [h]
theorem B84 (hT:TypesOk P T) {t:TypeId} {ti:TI} (ht:T t = some ti) {l:List Sc} {vs:List Value} {b o off:Nat} {f:Eff}
  (h:(readA ti l off).eval = some f) (hl:Each (RepSc H μ w I) l vs) (hc:∀ j v,vs[j]? = some v → w.cell? ⟨b,o + j,none⟩ = some v) :
  ∃ u,(loadVar t ⟨b,o + off,none⟩).run P w = .ok u w ∧ f.ws = [] ∧ RepAV H μ w I f.v u:=by
 have hlen:=hl.len
 unfold readA at h
 split at h
 ·rename_i hagg
  split at h
  ·rename_i hle
   cases Z6 h
   have hcs:((vs.drop off).take ti.size).length = ti.size:=by simp; omega
   have hload:=run_loadCells_list (P:=P) w ⟨b,o + off,none⟩ ((vs.drop off).take ti.size) (fun j v hj=>by
    rw [a93,Nat.add_assoc]
    refine hc (off + j) v ?_
    rw [List.getElem?_take] at hj
    split at hj
    ·rwa [List.getElem?_drop] at hj
    ·cases hj)
   rw [hcs] at hload
   refine ⟨.agg ((vs.drop off).take ti.size).toArray,?_,rfl,⟨_,rfl,by simpa using (hl.drop off).take ti.size⟩⟩
   simp [loadVar,(hT t ti ht).run_isAgg,hagg,(hT t ti ht).run_sizeOf,hload]
  ·cases h
 ·rename_i hagg
  split at h
  ·rename_i s hs
   cases Z6 h
   obtain ⟨v,hv,hr⟩:=hl.get off s hs
   refine ⟨v,?_,rfl,hr⟩
   have:=hc off v hv
   simp [loadVar,(hT t ti ht).run_isAgg,hagg,this]
  ·cases h
theorem w26 {c:Array Value} {e:TypeId} {fr:Nat × Nat} {b:Nat} (hb:w.heap[b]? = some (.cells c e fr)) (j:Nat) (v:Value) (h:c.toList[j]? = some v) :
  w.cell? ⟨b,0 + j,none⟩ = some v:=by
 rw [Nat.zero_add,cell_of_row w b j c e fr hb]
 simpa using h
theorem B10 {α:Type} {l vs:List α} {j:Nat} {v:α} (ht:l.take vs.length = vs) (h:vs[j]? = some v):l[j]? = some v:=by
 have hlt:j < vs.length:=(List.getElem?_eq_some_iff.1 h).1
 rw [← ht,List.getElem?_take,if_pos hlt] at h
 exact h
theorem load_ok (hT:TypesOk P T) (hr:HeapRel B w0 H μ w I) {t:TypeId} {x:AV} {f:Eff} {a:Value} (h:(loadA T H t x).eval = some f) (ha:RepAV H μ w I x a) :
  ∃ u,(Instr.loadAt t a).run P w = .ok u w ∧ Done B w0 H μ w I f u w:=by
 have fin:∀ {b o:Nat} {u:Value},a = .pointer (some ⟨b,o,none⟩) → (loadVar t ⟨b,o,none⟩).run P w = .ok u w → f.ws = [] → RepAV H μ w I f.v u →
   ∃ u,(Instr.loadAt t a).run P w = .ok u w ∧ Done B w0 H μ w I f u w:=by
  intro b o u e h1 h2 h3
  subst e
  refine ⟨u,by simp [Instr.loadAt,Instr.sureAddr,h1],?_⟩
  have:f = ⟨f.v,[]⟩:=by rw [← h2]
  rw [this]
  exact S3 hr h3
 unfold loadA at h
 split at h
 ·rename_i ti id off hti
  split at h
  ·rename_i l hid
   obtain ⟨_,b,n,hm,hv⟩:=ha
   obtain ⟨b',c,e,h1,h2,h3⟩:=hr.blk id _ hid
   rw [hm] at h1; cases h1
   obtain ⟨u,k1,k2,k3⟩:=B84 (P:=P) hT hti (b:=b) (o:=0) h h3 (w26 h2)
   rw [Nat.zero_add] at k1
   exact fin hv k1 k2 k3
  ·cases h
 ·rename_i ti ls hti
  obtain ⟨b,o,vs,hv,hat,hls⟩:=ha
  obtain ⟨u,k1,k2,k3⟩:=B84 (P:=P) hT hti (b:=b) (o:=o) h (w43 (H:=H) (μ:=μ) hls) (fun j v hj=>(hat j v hj).2)
  exact fin hv k1 k2 k3
 ·rename_i ti id ver i off hti
  split at h
  ·rename_i e x vr l hid
   split at h
   ·rename_i hver
    obtain ⟨hh,h2⟩:=a33 h
    have hi:i < l.length:=by simpa using hh
    obtain ⟨⟨e2,x2,vr2,l2,g1,g2,g3⟩,_⟩:=ha
    rw [hid] at g1; cases g1
    obtain ⟨b,n,hm,hv⟩:=g3 hver.symm
    have hb:=hr.blk id _ hid
    simp only [BlkOk,hm] at hb
    obtain ⟨c,el,vs,k1,k2,k3,k4⟩:=hb
    have hcells:=w62 (w:=w) (I:=I) i hi k3
    rw [getD_eq hi] at h2
    obtain ⟨u,m1,m2,m3⟩:=B84 (P:=P) hT hti (b:=b) (o:=i * e.width) h2 (w43 (H:=H) (μ:=μ) (w07 e hcells)) (fun j v hj=>by
     rw [List.getElem?_take] at hj
     split at hj
     ·rw [List.getElem?_drop] at hj
      have:=w26 k1 (i * e.width + j) v (B10 k4 hj)
      rwa [Nat.zero_add] at this
     ·cases hj)
    exact fin hv m1 m2 m3
   ·cases h
  ·cases h
 ·cases h
theorem part_ok (hT:TypesOk P T) {t:TypeId} {ti:TI} (ht:T t = some ti) {l:List Sc} {cs:Array Value} {off:Nat} {f:Eff}
  (h:(readA ti l off).eval = some f) (hl:Each (RepSc H μ w I) l cs.toList):∃ u,(part t cs off).run P w = .ok u w ∧ f.ws = [] ∧ RepAV H μ w I f.v u:=by
 have hlen:=hl.len
 unfold readA at h
 split at h
 ·rename_i hagg
  split at h
  ·rename_i hle
   cases Z6 h
   refine ⟨.agg (cs.extract off (off + ti.size)),?_,rfl,⟨_,rfl,?_⟩⟩
   ·simp [part,(hT t ti ht).run_isAgg,hagg,(hT t ti ht).run_sizeOf]
   ·have:(cs.extract off (off + ti.size)).toList = (cs.toList.drop off).take ti.size:=by
     simp [List.drop_take]
    rw [this]
    exact (hl.drop off).take ti.size
  ·cases h
 ·rename_i hagg
  split at h
  ·rename_i s hs
   cases Z6 h
   obtain ⟨v,hv,hr⟩:=hl.get off s hs
   have hv':cs[off]? = some v:=by simpa using hv
   refine ⟨v,?_,rfl,hr⟩
   simp [part,(hT t ti ht).run_isAgg,hagg,hv']
  ·cases h
theorem field_ok (hT:TypesOk P T) (hr:HeapRel B w0 H μ w I) {t:TypeId} {x:AV} {i:Nat} {f:Eff} {a:Value} (h:(fieldA T t x i).eval = some f) (ha:RepAV H μ w I x a) :
  ∃ u,(Instr.field t a i).run P w = .ok u w ∧ Done B w0 H μ w I f u w:=by
 unfold fieldA at h
 split at h
 ·rename_i ti l hti
  obtain ⟨cs,rfl,hl⟩:=ha
  split at h
  ·rename_i fs htd
   obtain ⟨fields,hu,hfs⟩:=B64 (hT t ti hti) htd
   subst hfs
   split at h
   ·rename_i off ft hfi
    have hfield:∃ fl:Field,fields[i]? = some fl ∧ fl.offset = off ∧ fl.type = ft:=by
     rw [List.getElem?_map] at hfi
     cases hq:fields.toList[i]? with
     | none=>rw [hq] at hfi; cases hfi
     | some fl =>
      rw [hq] at hfi
      simp only [Option.map_some,Option.some.injEq,Prod.mk.injEq] at hfi
      exact ⟨fl,by simpa using hq,hfi.1,hfi.2⟩
    obtain ⟨fl,hfl,rfl,rfl⟩:=hfield
    split at h
    ·rename_i tf htf
     obtain ⟨u,k1,k2,k3⟩:=part_ok (P:=P) hT htf h hl
     refine ⟨u,by simp [Instr.field,run_underlying hu,hfl,asAgg,k1],?_⟩
     have:f = ⟨f.v,[]⟩:=by rw [← k2]
     rw [this]
     exact S3 hr k3
    ·cases h
   ·cases h
  ·cases h
 ·cases h
theorem index_ok (hT:TypesOk P T) (hr:HeapRel B w0 H μ w I) {t:TypeId} {x ix:AV} {f:Eff} {a c:Value} (h:(indexA T t x ix).eval = some f)
  (ha:RepAV H μ w I x a) (hc:RepAV H μ w I ix c):∃ u,(Instr.index t a c).run P w = .ok u w ∧ Done B w0 H μ w I f u w:=by
 unfold indexA at h
 split at h
 ·rename_i ti i hti hi
  obtain ⟨k,rfl⟩:=w54 hi hc
  split at h
  ·rename_i n e l htd
   obtain ⟨cs,rfl,hl⟩:=ha
   split at h
   ·rename_i te hte
    obtain ⟨hh,h2⟩:=a33 h
    simp only [Bool.and_eq_true,decide_eq_true_eq] at hh
    obtain ⟨u,k1,k2,k3⟩:=part_ok (P:=P) hT hte (C36 (g:=fun j=>readA te l (j * te.size)) h2) hl
    refine ⟨u,by simp [Instr.index,asIntOf,run_underlying (w38 (hT t ti hti) htd),hh.1,hh.2,(hT e te hte).run_sizeOf,k1],?_⟩
    have:f = ⟨f.v,[]⟩:=by rw [← k2]
    rw [this]
    exact S3 hr k3
   ·cases h
  ·rename_i s htd
   obtain ⟨hh,h2⟩:=a33 h
   cases Z6 h2
   simp only [Bool.and_eq_true,decide_eq_true_eq] at hh
   cases w74 ha
   have hlt:i.toNat < s.size:=by omega
   have hlt':i.toNat < s.data.size:=hlt
   refine ⟨_,?_,S3 hr (w18 _ _)⟩
   have hget:s[i.toNat]? = some (s.data.toList.getD i.toNat 0):=by
    rw [getElem?_pos s i.toNat hlt]
    congr 1
    show s.data[i.toNat] = s.data.toList[i.toNat]?.getD 0
    rw [Array.getElem?_toList,Array.getElem?_eq_getElem hlt']
    rfl
   simp [Instr.index,asIntOf,run_underlying (B44 (hT t ti hti) htd),hh.1,hget]
  ·cases h
 ·cases h
theorem B80:∀ (xs cs:List Sc) (off:Nat),off + xs.length ≤ cs.length → place cs off xs = cs.take off ++ xs ++ cs.drop (off + xs.length)
 | [],cs,off,_=>by simp [place]
 | x :: xs,cs,off,h=>by
  simp only [List.length_cons] at h
  simp only [place]
  rw [B80 xs (cs.set off x) (off + 1) (by simp; omega)]
  have h1:(cs.set off x).take (off + 1) = cs.take off ++ [x]:=by
   rw [List.take_add_one,List.take_set_of_le (Nat.le_refl off)]
   simp [show off < cs.length by omega]
  have h2:(cs.set off x).drop (off + 1 + xs.length) = cs.drop (off + (x :: xs).length):=by
   rw [List.drop_set_of_lt (by omega)]
   congr 1
   simp
   omega
  rw [h1,h2]
  simp
theorem store_run (hT:TypesOk P T) {t:TypeId} {ti:TI} (ht:T t = some ti) {b o:Nat} {c:Array Value} {e:TypeId} (hb:w.heap[b]? = some (.cells c e (0,0)))
  {v:Value} (hs:v.cells.size = ti.size) (hle:o + ti.size ≤ c.size) (h1:∀ u ∈ v.cells.toList,u.oneCell' = true) :
  (storeVar t ⟨b,o,none⟩ v).run P w = .ok () (w.setRow b (c.toList.take o ++ v.cells.toList ++ c.toList.drop (o + v.cells.size)).toArray):=by
 have hst:=run_storeCells_at P b o e v.cells.toList 0 c w hb (by simp; omega) h1
 simp only [Nat.add_zero,Array.length_toList] at hst
 simp [storeVar,(hT t ti ht).run_sizeOf,hs,hst]
theorem all_one {l:List Sc} {vs:List Value} (hs:l.all Sc.storable = true) (h:Each (RepSc H μ w I) l vs):∀ u ∈ vs,u.oneCell' = true:=by
 induction l generalizing vs with
 | nil=>cases vs with | nil=>simp | cons _ _=>exact h.elim
 | cons s l ih =>
  cases vs with
  | nil=>exact h.elim
  | cons v vs =>
   simp only [List.all_cons,Bool.and_eq_true] at hs
   intro u hu
   rcases List.mem_cons.1 hu with rfl | hu
   ·exact RepSc.one hs.1 h.1
   ·exact ih hs.2 h.2 u hu
theorem B50 {a:A1} (h:a.cells.all Sc.storable = true):a.whole = true:=by
 cases a with
 | sc s=>simpa [A1.cells,A1.whole] using h
 | agg l=>rfl
theorem RepLs.set {e:Ty}:∀ {l:List e.den} {vs:List Value} (i:Nat) (_:i < l.length) {y:e.den} {cs:List Value},RepLs (RepC w I e) l vs → RepC w I e y cs →
  RepLs (RepC w I e) (l.set i y) (vs.take (i * e.width) ++ cs ++ vs.drop ((i + 1) * e.width))
 | x :: l,_,0,_,y,cs,⟨a,b,h,h1,h2⟩,hy=>by
  subst h
  have hw:=h1.len
  refine ⟨cs,b,?_,hy,h2⟩
  simp [← hw]
 | x :: l,_,i + 1,hi,y,cs,⟨a,b,h,h1,h2⟩,hy=>by
  subst h
  have hw:=h1.len
  have ih:=RepLs.set i (by simpa using hi) h2 hy
  refine ⟨a,_,?_,h1,ih⟩
  have e1:(i + 1) * e.width = a.length + i * e.width:=by rw [hw,Nat.add_mul]; omega
  have e2:(i + 1 + 1) * e.width = a.length + (i + 1) * e.width:=by rw [hw,Nat.add_mul (i + 1)]; omega
  rw [e1,e2,List.take_append,List.take_of_length_le (l:=a) (by omega),List.drop_append,List.drop_eq_nil_of_le (as:=a) (by omega)]
  simp [e1,List.append_assoc]
theorem w59 {id:Nat}:∀ (ws:List (Nat × Blk)) (h:List Blk),(∀ p ∈ ws,p.1 ≠ id) → (E3 h ws)[id]? = h[id]?
 | [],_,_=>rfl
 | (i,b) :: r,h,hn=>by
  simp only [E3]
  rw [w59 r _ (fun p hp=>hn p (by simp [hp]))]
  exact a66 (fun e=>hn (i,b) (by simp) e.symm) b
theorem C15 (H:List Blk):∀ (l:List Nat),∀ p ∈ shown H l,p.1 ∈ l
 | [],p,h=>by simp [shown] at h
 | id :: r,p,h=>by
  simp only [shown] at h
  split at h
  ·rcases List.mem_cons.1 h with rfl | h
   ·simp
   ·exact List.mem_cons_of_mem _ (C15 H r p h)
  ·exact List.mem_cons_of_mem _ (C15 H r p h)
theorem B33 {H:List Blk} {l:List Nat} {id:Nat} (h:id ∉ l):(E3 H (shown H l))[id]? = H[id]? :=
 w59 _ _ fun p hp e=>h (e ▸ C15 H l p hp)
theorem splice_take {α:Type} {c vs vc:List α} {p:Nat} (hvs:c.take vs.length = vs) (h:p + vc.length ≤ vs.length) :
  (c.take p ++ vc ++ c.drop (p + vc.length)).take vs.length = vs.take p ++ vc ++ vs.drop (p + vc.length):=by
 have hn:vs.length ≤ c.length:=by
  have:=congrArg List.length hvs
  simp at this
  omega
 have h1:vs.take p = c.take p:=by rw [← hvs,List.take_take]; congr 1; omega
 have h2:vs.drop (p + vc.length) = (c.drop (p + vc.length)).take (vs.length - (p + vc.length)):=by
  conv=>lhs; rw [← hvs]
  rw [List.drop_take]
 rw [h1,h2,List.take_append,List.take_of_length_le (by simp; omega)]
 congr 2
 simp
 omega
theorem store_ok (hT:TypesOk P T) (hr:HeapRel B w0 H μ w I) {t:TypeId} {x y:AV} {f:Eff} {a v:Value} (h:(storeA T H t x y).eval = some f)
  (ha:RepAV H μ w I x a) (hv:RepAV H μ w I y v) (u:Value):∃ w',(Instr.storeAt t a v).run P w = .ok () w' ∧ Done B w0 H μ w I f u w':=by
 unfold storeA at h
 split at h
 ·rename_i ti id off z hti
  split at h
  ·rename_i l hid
   split at h
   ·rename_i hcond
    obtain ⟨c1,c2,c3⟩:=hcond
    cases h
    obtain ⟨_,b,n,hm,rfl⟩:=ha
    obtain ⟨b',c,e,h1,h2,h3⟩:=hr.blk id _ hid
    rw [hm] at h1; cases h1
    have hz:=w80 (B50 c3) hv
    have hzl:=hz.len
    have hcl:=h3.len
    simp only [Array.length_toList] at hzl hcl
    have hrun:=store_run (P:=P) hT hti (o:=off) h2 (v:=v) (by omega) (by omega) (all_one c3 hz)
    have hl':Each (RepSc H μ w I) (place l off z.cells) (c.toList.take off ++ v.cells.toList ++ c.toList.drop (off + v.cells.size)).toArray.toList:=by
     rw [B80 _ _ _ (by omega)]
     simp only []
     rw [hzl]
     exact ((h3.take off).append hz).append (h3.drop _)
    obtain ⟨k1,k2⟩:=hr.store_cells hid hm h2 hl' (B98 _ _ _)
    exact ⟨_,by simp [Instr.storeAt,Instr.sureAddr,hrun],μ,I,k1,k2,trivial⟩
   ·cases h
  ·cases h
 ·rename_i ti id ver i off z hti
  split at h
  ·rename_i e vr l hid
   split at h
   ·rename_i hcond
    obtain ⟨c0,c1,c2,c3,c4⟩:=hcond
    obtain ⟨hh,h2⟩:=a33 h
    have hi:i < l.length:=by simpa using hh
    split at h2
    ·rename_i y' hy'
     cases h2
     obtain ⟨⟨e2,x2,vr2,l2,g1,g2,g3⟩,_⟩:=ha
     rw [hid] at g1; cases g1
     obtain ⟨b,n,hm,rfl⟩:=g3 c0.symm
     have hb:=hr.blk id _ hid
     simp only [BlkOk,hm] at hb
     obtain ⟨c,el,vs,k1,k2,k3,k4⟩:=hb
     have hz:=w80 (B50 c3) hv
     have hzl:=hz.len
     simp only [Array.length_toList] at hzl
     have hvl:=k3.len
     have hvn:vs.length ≤ c.size:=by
      have:=congrArg List.length k4
      simp at this
      omega
     have hiw:i * e.width + e.width ≤ l.length * e.width:=by
      rw [← Nat.succ_mul]; exact Nat.mul_le_mul_right _ hi
     have hrun:=store_run (P:=P) hT hti (o:=i * e.width + off) k1 (v:=v) (by omega) (by omega) (all_one c3 hz)
     obtain ⟨I1,r1,x1,s1,con1⟩:=HeapRel.shows (H0:=H) z.rows hr (Shows.refl H) rfl
     have hid1:(E3 H (shown H z.rows))[id]? = some (.row e true vr l):=by
      rcases s1 id _ hid with ⟨e',x',x'',vr',l',q1,q2⟩ | q
      ·cases q1
       rw [B33 (by simpa using c4)]; exact hid
      ·exact q
     have hel:=w62 (w:=w) (I:=I) i hi k3
     have hels:=w43 (H:=H) (μ:=μ) (w07 e hel)
     rw [getD_eq hi] at hy'
     have hell:=hels.len
     have hwid:((leaves e l[i]).map leafSc).length = e.width:=by rw [hell,hel.len]
     have hpl:Each (RepSc H μ w I) (place ((leaves e l[i]).map leafSc) off z.cells)
       (((vs.drop (i * e.width)).take e.width).take off ++ v.cells.toList ++ ((vs.drop (i * e.width)).take e.width).drop (off + v.cells.size)):=by
      rw [B80 _ _ _ (by omega),hzl]
      exact ((hels.take off).append hz).append (hels.drop _)
     obtain ⟨d1,d2,q1,q2,q3,_⟩:=B06 (I':=I1) hr x1.keeps e hy' hpl (fun s hs id' hid' bb oo hcon=>by
      have hmem:s ∈ (leaves e l[i]).map leafSc ∨ s ∈ z.cells:=by
       rw [B80 _ _ _ (by omega)] at hs
       rcases List.mem_append.1 hs with hs | hs
       ·rcases List.mem_append.1 hs with hs | hs
        ·exact .inl (List.mem_of_mem_take hs)
        ·exact .inr hs
       ·exact .inl (List.mem_of_mem_drop hs)
      rcases hmem with hmem | hmem
      ·obtain ⟨lf,_,rfl⟩:=List.mem_map.1 hmem
       simp [leafSc,Sc.rows] at hid'
      ·refine con1 id' ?_ bb oo hcon
       cases z with
       | sc s'=>simp [A1.cells] at hmem; subst hmem; exact hid'
       | agg ll=>simp only [A1.rows,List.mem_flatMap]; exact ⟨s,hmem,hid'⟩)
     have hd2:d2 = []:=by cases d2 with | nil=>rfl | cons _ _=>exact q3.elim
     subst hd2
     simp only [List.append_nil] at q1
     have hset:=RepLs.set (w:=w) (I:=I1) i hi (k3.mono fun _ _ hh=>RepC.mono x1.keeps _ _ _ hh) q2
     have hd1:=q2.len
     have hnew:vs.take (i * e.width) ++ d1 ++ vs.drop ((i + 1) * e.width) = vs.take (i * e.width + off) ++ v.cells.toList ++ vs.drop (i * e.width + off + v.cells.size):=by
      rw [← q1]
      have t1:((vs.drop (i * e.width)).take e.width).take off = (vs.drop (i * e.width)).take off:=by
       rw [List.take_take]; congr 1; omega
      have t2:((vs.drop (i * e.width)).take e.width).drop (off + v.cells.size) ++ vs.drop ((i + 1) * e.width) = vs.drop (i * e.width + off + v.cells.size):=by
       rw [List.drop_take,List.drop_drop]
       have e3:vs.drop ((i + 1) * e.width) = (vs.drop (i * e.width + (off + v.cells.size))).drop (e.width - (off + v.cells.size)):=by
        rw [List.drop_drop]; congr 1; rw [Nat.add_mul]; omega
       rw [e3,List.take_append_drop]
       congr 1
       omega
      have t3:vs.take (i * e.width) ++ (vs.drop (i * e.width)).take off = vs.take (i * e.width + off):=by
       rw [List.take_add]
      rw [t1,← t2,← t3]
      simp only [List.append_assoc]
     rw [hnew] at hset
     obtain ⟨m1,m2⟩:=r1.row_write (c':=(c.toList.take (i * e.width + off) ++ v.cells.toList ++ c.toList.drop (i * e.width + off + v.cells.size)).toArray) hid1 hm k1 (vr2:=vr)
      (by simp; omega) hset (by
       have hq:(vs.take (i * e.width + off) ++ v.cells.toList ++ vs.drop (i * e.width + off + v.cells.size)).length = vs.length:=by simp; omega
       rw [hq]
       have:=splice_take (c:=c.toList) (vs:=vs) (vc:=v.cells.toList) (p:=i * e.width + off) k4 (by simp; omega)
       simpa using this)
      (fun o hio=>by
       obtain ⟨_,himm⟩:=r1.imm b o hio
       obtain ⟨e',vr',l',hcontra,_⟩:=himm id _ n hid1 rfl hm
       cases hcontra)
      (Nat.le_refl _) (fun _=>by simp) (by simp)
     refine ⟨_,by simp only [Instr.storeAt,Instr.sureAddr,Sem.run_bind,Sem.run_pure,Result.andThen_ok]; exact hrun,μ,I1,?_,?_,trivial⟩
     ·simp only [a57,E3]; exact m1
     ·simp only [a57,E3]
      exact x1.trans (m2.mono (Nat.le_of_eq (a55 _ _).symm))
    ·cases h2
   ·cases h
  ·cases h
 ·cases h
end
section
variable {P:Program} {T:TypeId → Option TI} {B:Nat} {w0:Base} {H:List Blk} {μ:Mu} {w:World} {I:Cells}
theorem RepLs.take {e:Ty}:∀ {l:List e.den} {vs:List Value} (n:Nat),RepLs (RepC w I e) l vs → RepLs (RepC w I e) (l.take n) (vs.take (n * e.width))
 | [],_,n,h=>by cases h; simp [RepLs]
 | _ :: _,_,0,_=>by simp [RepLs]
 | x :: l,_,n + 1,⟨a,b,h,h1,h2⟩=>by
  subst h
  have hw:=h1.len
  refine ⟨a,b.take (n * e.width),?_,h1,RepLs.take n h2⟩
  rw [Nat.add_mul,Nat.one_mul,← hw,Nat.add_comm,List.take_append,List.take_of_length_le (by omega)]
  congr 2
  omega
theorem RepLs.drop {e:Ty}:∀ {l:List e.den} {vs:List Value} (n:Nat),RepLs (RepC w I e) l vs → RepLs (RepC w I e) (l.drop n) (vs.drop (n * e.width))
 | [],_,n,h=>by cases h; simp [RepLs]
 | _ :: _,_,0,h=>by simpa using h
 | x :: l,_,n + 1,⟨a,b,h,h1,h2⟩=>by
  subst h
  have hw:=h1.len
  have:=RepLs.drop n h2
  simp only [List.drop_succ_cons]
  have e1:(n + 1) * e.width = a.length + n * e.width:=by rw [hw,Nat.add_mul]; omega
  rw [e1,List.drop_append,List.drop_eq_nil_of_le (as:=a) (by omega),List.nil_append,Nat.add_sub_cancel_left]
  exact this
theorem RepLs.zeros (w:World) (I:Cells) (e:Ty):∀ n,RepLs (RepC w I e) (List.replicate n e.dflt) (List.replicate n (zc e)).flatten
 | 0=>rfl
 | n + 1=>⟨zc e,_,by simp [List.replicate_succ],w11 w I e,RepLs.zeros w I e n⟩
theorem made_flat (z:Array Value) (hz:0 < z.size):∀ n,(madeCells z (n * z.size)).toList = (List.replicate n z.toList).flatten
 | 0=>by simp [madeCells]
 | n + 1=>by
  have ih:=made_flat z hz n
  have e1:(n + 1) * z.size = n * z.size + z.size:=by rw [Nat.add_mul,Nat.one_mul]
  rw [List.replicate_succ',List.flatten_append,← ih,e1]
  simp only [madeCells,Array.toList_map,Array.toList_range,List.range_add,List.map_append,List.map_map,List.flatten_cons,List.flatten_nil,List.append_nil]
  congr 1
  apply List.ext_getElem?
  intro j
  by_cases hj:j < z.size
  ·simp [hj,Nat.mod_eq_of_lt hj]
  ·simp [hj]
theorem w21:∀ (xs cs:List Value) (off:Nat),off + xs.length ≤ cs.length → putAll cs off xs = cs.take off ++ xs ++ cs.drop (off + xs.length)
 | [],cs,off,_=>by simp [putAll]
 | x :: xs,cs,off,h=>by
  simp only [List.length_cons] at h
  simp only [putAll]
  rw [w21 xs (cs.set off x) (off + 1) (by simp; omega)]
  have h1:(cs.set off x).take (off + 1) = cs.take off ++ [x]:=by
   rw [List.take_add_one,List.take_set_of_le (Nat.le_refl off)]
   simp [show off < cs.length by omega]
  have h2:(cs.set off x).drop (off + 1 + xs.length) = cs.drop (off + (x :: xs).length):=by
   rw [List.drop_set_of_lt (by omega)]
   congr 1
   simp
   omega
  rw [h1,h2]
  simp
theorem RepV.cells {t:Ty} {x:t.den} {v:Value} (h:RepV w I t x v):RepC w I t x v.cells.toList:=by
 rcases h with ⟨_,h⟩ | ⟨_,cs,rfl,h⟩
 ·rw [cells_one (h.one v (by simp))]
  exact h
 ·exact h
theorem B65 (hr:HeapRel B w0 H μ w I) {I':Cells} (hk:Keeps w w I I') {e:Ty} (he:0 < e.width):∀ (n k:Nat) {ps:List (Nat × AV)} {vs:List (Nat × Value)} {l:List e.den} {C:Array Value} {pre:List Value},
  rowOf H e e.dflt n k ps = some l → Each (fun (p:Nat × AV) (q:Nat × Value)=>p.1 = q.1 ∧ RepAV H μ w I p.2 q.2) ps vs →
  (∀ id ∈ a88 ps,∀ b o,content H μ id b o → I' b o) →
  C.toList = pre ++ (List.replicate n (zc e)).flatten → pre.length = k * e.width →
  ∃ C' tail,Instr.fill (fun i=>some (i * e.width,e.width)) C vs = some C' ∧ C'.toList = pre ++ tail ∧ RepLs (RepC w I' e) l tail
 | 0,k,[],[],l,C,pre,h,_,_,hC,_=>by
  simp only [rowOf,Option.some.injEq] at h
  subst h
  exact ⟨C,[],rfl,by simpa using hC,rfl⟩
 | 0,k,[],_ :: _,l,C,pre,h,hv,_,_,_=>hv.elim
 | 0,k,_ :: _,_,l,C,pre,h,_,_,_,_=>by simp [rowOf] at h
 | n + 1,k,[],[],l,C,pre,h,_,hI,hC,hp=>by
  simp only [rowOf] at h
  split at h
  ·rename_i l' hl'
   cases h
   obtain ⟨C',tail,k1,k2,k3⟩:=B65 hr hk he n (k + 1) (vs:=[]) (C:=C) (pre:=pre ++ zc e) hl' trivial hI
    (by rw [hC,List.replicate_succ]; simp) (by rw [List.length_append,hp,(w11 w I e).len,Nat.add_mul]; omega)
   exact ⟨C',zc e ++ tail,k1,by rw [k2]; simp,zc e,tail,rfl,w11 w I' e,k3⟩
  ·cases h
 | n + 1,k,[],_ :: _,l,C,pre,h,hv,_,_,_=>hv.elim
 | n + 1,k,(i,.tup _) :: _,_,l,C,pre,h,_,_,_,_=>by simp [rowOf] at h
 | n + 1,k,(i,.one a) :: r,[],l,C,pre,h,hv,_,_,_=>hv.elim
 | n + 1,k,(i,.one a) :: r,(j,v) :: vs,l,C,pre,h,⟨⟨h1,h2⟩,h3⟩,hI,hC,hp=>by
  simp only at h1
  subst h1
  simp only [rowOf] at h
  split at h
  ·rename_i hik
   subst hik
   split at h
   ·rename_i x hx
    split at h
    ·rename_i l' hl'
     cases h
     have hc:=(fzA_rep hr hk hx h2 (fun id hid=>hI id (by simp [a88,hid]))).cells
     have hcl:=hc.len
     simp only [Array.length_toList] at hcl
     have hCl:C.size = pre.length + (n + 1) * e.width:=by
      have:=congrArg List.length hC
      simp [(w11 w I e).len] at this
      exact this
     simp only [Instr.fill]
     have hb:(v.cells.size ≠ e.width || i * e.width + v.cells.size > C.size) = false:=by
      have h0:¬ (i * e.width + v.cells.size > C.size):=by rw [hcl,hCl,hp,Nat.add_mul]; omega
      simp [hcl]
      omega
     rw [if_neg (by rw [hb]; simp)]
     have hnew:((v.cells.zipIdx.foldl (fun (cs:Array Value) (p:Value × Nat)=>cs.setIfInBounds (i * e.width + p.2) p.1) C)).toList = (pre ++ v.cells.toList) ++ (List.replicate n (zc e)).flatten:=by
      rw [← Array.foldl_toList,Array.toList_zipIdx,B40 v.cells.toList 0 (i * e.width) C,Nat.add_zero,w21 _ _ _ (by rw [Array.length_toList,Array.length_toList,hcl,hCl,hp,Nat.add_mul]; omega),hC,← hp]
      rw [List.take_left,List.drop_append,List.drop_eq_nil_of_le (by simp),List.nil_append,List.replicate_succ,List.flatten_cons]
      congr 1
      rw [Nat.add_sub_cancel_left,List.drop_append,List.drop_eq_nil_of_le (by rw [(w11 w I e).len,Array.length_toList,hcl]; exact Nat.le_refl _),List.nil_append]
      rw [(w11 w I e).len,Array.length_toList,hcl,Nat.sub_self,List.drop_zero]
     obtain ⟨C',tail,k1,k2,k3⟩:=B65 hr hk he n (i + 1) hl' h3 (fun id hid=>hI id (by simp [a88,hid])) hnew
      (by rw [List.length_append,hp,Array.length_toList,hcl,Nat.add_mul]; omega)
     exact ⟨C',v.cells.toList ++ tail,k1,by rw [k2]; simp,v.cells.toList,tail,rfl,hc,k3⟩
    ·cases h
   ·cases h
  ·rename_i hik
   split at h
   ·rename_i l' hl'
    cases h
    obtain ⟨C',tail,k1,k2,k3⟩:=B65 hr hk he n (k + 1) (ps:=(i,.one a) :: r) (vs:=(i,v) :: vs) (C:=C) (pre:=pre ++ zc e) hl' ⟨⟨rfl,h2⟩,h3⟩ hI
     (by rw [hC,List.replicate_succ]; simp) (by rw [List.length_append,hp,(w11 w I e).len,Nat.add_mul]; omega)
    exact ⟨C',zc e ++ tail,k1,by rw [k2]; simp,zc e,tail,rfl,w11 w I' e,k3⟩
   ·cases h
theorem zero_flat (hT:TypesOk P T) {e:TypeId} {te:TI} (hte:T e = some te) (hty:te.hasTy = true) (n:Nat) :
  (madeCells te.zero.cells (n * te.size)).toList = (List.replicate n (zc te.ty)).flatten:=by
 obtain ⟨h1,h2,h3⟩:=(hT e te hte).ty hty
 have h4:te.zero.cells.size = te.size:=by
  rw [← Array.length_toList,h1,(w11 default (fun _ _=>True) te.ty).len,h3]
 have:=made_flat te.zero.cells (by omega) n
 rw [h4,h1] at this
 exact this
theorem B47 {nid b n:Nat} {e:Ty} {x:Bool} {l:List e.den} {cap:Nat} (h:H[nid]? = some (.row e x 0 l)) (hm:μ nid = some (b,n)) (h1:l.length ≤ cap) (h2:cap ≤ maxLen) (h3:cap * e.width = n) :
  RepAV H μ w I (.sc (.own nid 0)) (.slice (some ⟨b,0,none⟩) l.length cap) :=
 ⟨⟨e,x,0,l,h,Nat.le_refl _,fun _=>by rw [hm]; exact ⟨cap,rfl,h1,h2,h3⟩⟩,_,_,_,rfl⟩
theorem w57 {e:Ty} (z:e.den):∀ (n k:Nat) {ps:List (Nat × AV)} {l:List e.den},rowOf H e z n k ps = some l → l.length = n
 | 0,k,[],l,h=>by simp only [rowOf,Option.some.injEq] at h; subst h; rfl
 | 0,k,_ :: _,l,h=>by simp [rowOf] at h
 | n + 1,k,[],l,h=>by
  simp only [rowOf] at h
  split at h
  ·rename_i l' hl'; cases h; simp [w57 z n (k + 1) hl']
  ·cases h
 | n + 1,k,(i,.tup _) :: _,l,h=>by simp [rowOf] at h
 | n + 1,k,(i,.one a) :: r,l,h=>by
  simp only [rowOf] at h
  split at h
  ·split at h
   ·split at h
    ·rename_i l' hl'; cases h; simp [w57 z n (k + 1) hl']
    ·cases h
   ·cases h
  ·split at h
   ·rename_i l' hl'; cases h; simp [w57 z n (k + 1) hl']
   ·cases h
theorem buildSlice_ok (hT:TypesOk P T) (hr:HeapRel B w0 H μ w I) {nid:Nat} (hf:H[nid]? = some .free) {t:TypeId} {n:Nat} {ps:List (Nat × AV)} {vs:Array (Nat × Value)} {f:Eff}
  (h:(w28 T H nid t n ps).eval = some f) (hv:Each (fun (p:Nat × AV) (q:Nat × Value)=>p.1 = q.1 ∧ RepAV H μ w I p.2 q.2) ps vs.toList) :
  ∃ u w',(Instr.buildSlice t n vs).run P w = .ok u w' ∧ Done B w0 H μ w I f u w':=by
 unfold w28 at h
 split at h
 ·rename_i ti hti
  split at h
  ·rename_i e htd
   split at h
   ·rename_i te hte
    split at h
    ·rename_i hcond
     obtain ⟨hty,hbig⟩:=hcond
     split at h
     ·rename_i l hl
      cases h
      obtain ⟨q1,q2,q3⟩:=(hT e te hte).ty hty
      obtain ⟨I1,r1,x1,s1,con1⟩:=HeapRel.shows (H0:=H) (a88 ps) hr (Shows.refl H) rfl
      obtain ⟨C',tail,k1,k2,k3⟩:=B65 (I':=I1) hr x1.keeps (by omega) n 0 (C:=madeCells te.zero.cells (n * te.size)) (pre:=[]) hl hv con1
       (by simpa using zero_flat hT hte hty n) (by simp)
      rw [q3] at k1
      simp only [List.nil_append] at k2
      have hf1:(E3 H (shown H (a88 ps)))[nid]? = some .free:=by
       rcases s1 nid _ hf with ⟨_,_,_,_,_,g,_⟩ | g
       ·cases g
       ·exact g
      have hlen:=w57 _ n 0 hl
      have hts:=k3.len
      have hCs:C'.size = n * te.ty.width:=by rw [← Array.length_toList,k2,hts,hlen]
      obtain ⟨m1,m2⟩:=r1.lay_row hf1 true 0 (c:=C') e k3 (by rw [k2,List.take_length])
      have hlt:=(List.getElem?_eq_some_iff.1 hf1).1
      refine ⟨.slice (some ⟨w.heap.size,0,none⟩) n n,w.alloc (.cells C' e),?_,muSet μ nid (some (w.heap.size,C'.size)),I1,?_,?_,?_⟩
      ·obtain ⟨inf,hi,hs,_,hz⟩:=(hT e te hte).info
       have hbig':¬ 16777216 < n * te.size:=by omega
       unfold Instr.buildSlice
       simp only [Sem.run_bind,run_underlying (a95 (hT t ti hti) htd),Result.andThen_ok,(hT e te hte).run_sizeOf,Sem.run_ite,run_unsupported]
       rw [if_neg (by simpa using hbig')]
       simp only [Sem.run_pure,Result.andThen_ok]
       by_cases h0:n * te.size = 0
       ·have hm0:madeCells te.zero.cells (n * te.size) = Array.map (fun x=>(#[]:Array Value)[x % (#[]:Array Value).size]!) (Array.range (n * te.size)):=by
         rw [h0]; simp [madeCells,Array.range_zero']
        rw [if_pos h0,← hm0,k1]
        simp [newRow]
       ·rw [if_neg h0]
        have hm1:Array.map (fun x=>te.zero.cells[x % te.zero.cells.size]!) (Array.range (n * te.size)) = madeCells te.zero.cells (n * te.size):=rfl
        simp only [(hT e te hte).run_zero,Result.andThen_ok,hm1,k1]
        simp [newRow]
      ·simp only [a57,E3]; exact m1
      ·simp only [a57,E3]
       exact x1.trans (m2.mono (Nat.le_of_eq (a55 _ _).symm))
      ·simp only [a57,E3]
       have hown:=B47 (H:=(E3 H (shown H (a88 ps))).set nid (Blk.row te.ty true 0 l)) (μ:=muSet μ nid (some (w.heap.size,C'.size))) (w:=w.alloc (.cells C' e)) (I:=I1)
        (a44 hlt (Blk.row te.ty true 0 l)) (Z4 μ nid (some (w.heap.size,C'.size))) (cap:=n) (by omega)
        (by unfold maxLen; have:n ≤ n * te.size:=Nat.le_mul_of_pos_right n q2; omega) hCs.symm
       rw [hlen] at hown
       exact hown
     ·cases h
    ·cases h
   ·cases h
  ·cases h
 ·cases h
end
section
variable {P:Program} {T:TypeId → Option TI} {B:Nat} {w0:Base} {H:List Blk} {μ:Mu} {w:World} {I:Cells}
theorem makeSlice_ok (hT:TypesOk P T) (hr:HeapRel B w0 H μ w I) {nid:Nat} (hf:H[nid]? = some .free) {t:TypeId} {x y:AV} {f:Eff} {a b:Value}
  (h:(B70 T nid t x y).eval = some f) (ha:RepAV H μ w I x a) (hb:RepAV H μ w I y b) :
  ∃ u w',(Instr.makeSlice t a b).run P w = .ok u w' ∧ Done B w0 H μ w I f u w':=by
 unfold B70 at h
 split at h
 ·rename_i ti n c hti hn hc
  obtain ⟨k,rfl⟩:=w54 hn ha
  obtain ⟨k',rfl⟩:=w54 hc hb
  split at h
  ·rename_i e htd
   split at h
   ·rename_i te hte
    split at h
    ·rename_i hty
     obtain ⟨hh,h2⟩:=a33 h
     cases h2
     simp only [Bool.and_eq_true,decide_eq_true_eq] at hh
     obtain ⟨⟨⟨h0,h1⟩,h2⟩,h3⟩:=hh
     obtain ⟨q1,q2,q3⟩:=(hT e te hte).ty hty
     obtain ⟨inf,hi,hs,hby,hz⟩:=(hT e te hte).info
     have hlim:c ≤ 1099511627776:=by unfold lim at h3; omega
     have hrun:=run_make (P:=P) w t e inf te.zero (a95 (hT t ti hti) htd) hi hz k k' n c h0 h1 (by rw [hby,Int.mul_comm]; omega) (by omega)
     rw [hs] at hrun
     have hflat:=zero_flat hT hte hty c.toNat
     have hsz:(madeCells te.zero.cells (c.toNat * te.size)).size = c.toNat * te.ty.width:=by rw [size_madeCells,q3]
     obtain ⟨m1,m2⟩:=hr.lay_row hf true 0 (c:=madeCells te.zero.cells (c.toNat * te.size)) e (RepLs.zeros w I te.ty n.toNat) (by
      rw [(RepLs.zeros w I te.ty n.toNat).len,hflat,List.length_replicate]
      have hcn:c.toNat = n.toNat + (c.toNat - n.toNat):=by omega
      rw [hcn,← List.replicate_append_replicate,List.flatten_append,List.take_append_of_le_length (by simp [(w11 w I te.ty).len]),List.take_of_length_le (by simp [(w11 w I te.ty).len])])
     have hlt:=(List.getElem?_eq_some_iff.1 hf).1
     have hown:=B47 (H:=H.set nid (Blk.row te.ty true 0 (List.replicate n.toNat te.ty.dflt))) (μ:=muSet μ nid (some (w.heap.size,(madeCells te.zero.cells (c.toNat * te.size)).size)))
      (w:=w.alloc (.cells (madeCells te.zero.cells (c.toNat * te.size)) e)) (I:=I) (a44 hlt _) (Z4 _ _ _) (cap:=c.toNat) (by simp; omega) (by unfold maxLen; omega) hsz.symm
     rw [List.length_replicate] at hown
     exact ⟨_,_,hrun,muSet μ nid (some (w.heap.size,(madeCells te.zero.cells (c.toNat * te.size)).size)),I,m1,m2,hown⟩
    ·cases h
   ·cases h
  ·cases h
 ·cases h
theorem len_ok (hT:TypesOk P T) (hr:HeapRel B w0 H μ w I) {t:TypeId} {ti:TI} (hti:T t = some ti) {x:AV} {f:Eff} {a:Value} (h:(lenA H ti.td x).eval = some f) (ha:RepAV H μ w I x a)
  (ts:Array TypeId) (hts:ts[0]? = some t) (rt:TypeId):∃ u,(Builtin.len_ ts rt #[a]).run P w = .ok u w ∧ Done B w0 H μ w I f u w:=by
 have hsl:∀ {el:TypeId} {base:Option Addr} {n c:Nat},ti.td = .slice el → (Builtin.len_ ts rt #[.slice base n c]).run P w = .ok (.int .i64 n) w:=by
  intro el base n c htd
  simp [Builtin.len_,hts,run_underlying (a95 (hT t ti hti) htd),goInt]
 unfold lenA at h
 split at h
 ·rename_i s htd
  cases Z6 h
  cases w74 ha
  exact ⟨_,by simp [Builtin.len_,hts,run_underlying (B44 (hT t ti hti) htd),goInt],S3 hr (w18 _ _)⟩
 ·rename_i n e htd
  cases Z6 h
  refine ⟨_,?_,S3 hr (w18 _ _)⟩
  simp only [Builtin.len_,hts]
  cases a <;> simp [run_underlying (w38 (hT t ti hti) htd),goInt]
 ·rename_i el e l htd
  cases Z6 h
  obtain ⟨_,base,cap,hb,_⟩:=ha
  simp only [List.cons.injEq,and_true] at hb
  subst hb
  exact ⟨_,hsl htd,S3 hr (w18 _ _)⟩
 ·rename_i el htd
  cases Z6 h
  cases ha
  exact ⟨_,hsl htd,S3 hr (w18 _ _)⟩
 ·rename_i el e l htd
  cases Z6 h
  obtain ⟨base,rfl,_⟩:=ha
  exact ⟨_,hsl htd,S3 hr (w18 _ _)⟩
 ·rename_i el id ver htd
  split at h
  ·rename_i e x vr l hid
   split at h
   ·rename_i hv
    cases Z6 h
    obtain ⟨⟨e2,x2,vr2,l2,g1,g2,g3⟩,_⟩:=ha
    rw [hid] at g1; cases g1
    have hown:=g3 hv.symm
    cases hm:μ id with
    | none =>
     rw [hm] at hown
     obtain ⟨e1,_,rfl⟩:=hown
     subst e1
     exact ⟨_,hsl htd,S3 hr (w18 _ _)⟩
    | some p =>
     rw [hm] at hown
     obtain ⟨cap,rfl,_⟩:=hown
     exact ⟨_,hsl htd,S3 hr (w18 _ _)⟩
   ·cases h
  ·cases h
 ·cases h
theorem B66:∀ {l:List AV} {ps:List (Nat × Nat)} {vs:List Value},ptrsOf l = some ps → Each (RepAV H μ w I) l vs → Each (RepPtr H μ) ps vs
 | [],ps,[],h,_=>by simp only [ptrsOf,Option.some.injEq] at h; subst h; trivial
 | [],_,_ :: _,_,hv=>hv.elim
 | x :: r,ps,vs,h,hv=>by
  cases vs with
  | nil=>exact hv.elim
  | cons v vs =>
   obtain ⟨h1,h2⟩:=hv
   unfold ptrsOf at h
   split at h
   ·rename_i heq; cases heq
   ·rename_i id off r' heq
    cases heq
    split at h
    ·rename_i l' hl'
     cases h
     exact ⟨h1,B66 hl' h2⟩
    ·cases h
   ·cases h
theorem makeFunc_ok (hr:HeapRel B w0 H μ w I) {fn:Fn} {x y:List AV} {f:Eff} {a b:Array Value} (h:(C16 fn x y).eval = some f)
  (ha:Each (RepAV H μ w I) x a.toList) (hb:Each (RepAV H μ w I) y b.toList):∃ u,(Instr.makeFunc fn a b).run P w = .ok u w ∧ Done B w0 H μ w I f u w:=by
 unfold C16 at h
 split at h
 ·rename_i k
  split at h
  ·cases Z6 h
   have ea:a = #[]:=by
    have:=ha.len
    exact Array.eq_empty_of_size_eq_zero (by simpa using this.symm)
   have eb:b = #[]:=by
    have:=hb.len
    exact Array.eq_empty_of_size_eq_zero (by simpa using this.symm)
   subst ea; subst eb
   exact ⟨_,rfl,S3 hr ⟨rfl,rfl⟩⟩
  ·split at h
   ·rename_i p q hp hq
    cases Z6 h
    exact ⟨_,rfl,S3 hr ⟨a,b,rfl,B66 hp ha,B66 hq hb⟩⟩
   ·cases h
 ·cases h
theorem C61:∀ (l:List Int) (r:ByteArray),l.foldl (fun r n=>r.push (UInt8.ofNat n.toNat)) r = ⟨r.data ++ (l.map fun n=>UInt8.ofNat n.toNat).toArray⟩
 | [],r=>by simp
 | n :: l,r=>by
  simp only [List.foldl_cons,List.map_cons]
  rw [C61 l]
  cases r
  simp [ByteArray.push]
theorem u8_cells:∀ {l:List Int} {vs:List Value},RepLs (RepC w I (.int .u8)) l vs → vs = l.map (Value.int .u8)
 | [],_,h=>h
 | n :: l,_,⟨a,b,h,h1,h2⟩=>by
  subst h
  rw [u8_cells h2,show a = [Value.int .u8 n] from h1]
  rfl
theorem RepLs.u8:∀ (l:List Int),RepLs (RepC w I (.int .u8)) l (l.map (Value.int .u8))
 | []=>rfl
 | n :: l=>⟨[.int .u8 n],_,rfl,rfl,RepLs.u8 l⟩
theorem conv_ok (hT:TypesOk P T) (hr:HeapRel B w0 H μ w I) {src dst:TypeId} {x:AV} {f:Eff} {a:Value} (h:(convA T H src dst x).eval = some f) (ha:RepAV H μ w I x a) :
  ∃ u w',(convert src dst a).run P w = .ok u w' ∧ Done B w0 H μ w I f u w':=by
 unfold convA at h
 split at h
 ·rename_i ts td hts htd
  obtain ⟨ds,hds,_⟩:=(hT src ts hts).und
  split at h
  ·rename_i k k' n hk
   cases Z6 h
   cases w44 ha
   refine ⟨.int k (k.wrap n),w,?_,S3 hr (w18 _ _)⟩
   simp [convert,run_underlying hds,run_underlying (und_int (hT dst td htd) hk),Conv.intToInt]
  ·rename_i s hk
   cases Z6 h
   cases w74 ha
   refine ⟨.string s,w,?_,S3 hr (mk_str _)⟩
   simp [convert,run_underlying hds,run_underlying (B44 (hT dst td htd) hk)]
  ·rename_i s hns hk
   split at h
   ·rename_i e hse
    split at h
    ·rename_i te hte
     split at h
     ·rename_i hu8
      split at h
      ·rename_i l hl
       cases h
       obtain ⟨I1,r1,x1,s1,con1⟩:=HeapRel.shows (H0:=H) s.rows hr (Shows.refl H) rfl
       obtain ⟨_,base,cap,hb,hcap,hx⟩:=fz_rep (I':=I1) hr hl ha x1.keeps con1
       simp only [List.cons.injEq,and_true] at hb
       subst hb
       refine ⟨.string (bytesOf l),w,?_,μ,I1,r1,x1,mk_str _⟩
       rw [run_convert_bytes_string w src dst e base _ cap (a95 (hT src ts hts) hse) (und_int (hT e te hte) hu8) (B44 (hT dst td htd) hk)]
       rcases hx with hx | ⟨b,o,vs,rfl,hls,hat⟩
       ·subst hx
        cases base with
        | none=>rfl
        | some ad =>
         show (Conv.bytesToString (.slice (some ad) 0 cap)).run P w = _
         rw [run_bytesToString w ad 0 cap [] (by simp [loadCells,loadCellsFrom])]
         rfl
       ·have hvs:=u8_cells hls
        subst hvs
        rw [run_bytesToString w ⟨b,o,none⟩ _ cap l (by
         have:=run_loadCells_list (P:=P) w ⟨b,o,none⟩ (l.map (Value.int .u8)) (fun j v hj=>by rw [a93]; exact (hat j v hj).2)
         simpa using this),C61]
        simp [bytesOf]
      ·cases h
     ·cases h
    ·cases h
   ·cases h
  ·rename_i e s hk
   split at h
   ·rename_i te hte
    split at h
    ·rename_i hu8
     cases Z6 h
     cases w74 ha
     have hrun:=Lib.run_convert_string_bytes (P:=P) w src dst e s hds (a95 (hT dst td htd) hk) (und_int (hT e te hte) hu8)
     have hbel:Below w.heap.size w (Lib.bytesWorld w e s):=⟨rfl,rfl,rfl,by rw [Lib.bytesWorld_size]; omega,fun j hj=>Lib.bytesWorld_at_old w e s j hj⟩
     obtain ⟨m1,m2⟩:=hr.called (J:=newCells w (Lib.bytesWorld w e s)) hbel (fun b o hJ=>hJ)
     refine ⟨_,_,hrun,μ,_,m1,m2,⟨rfl,some ⟨w.heap.size,0,none⟩,grownCap w s.size 0 e,?_,?_,.inr ⟨w.heap.size,0,_,rfl,RepLs.u8 _,?_⟩⟩⟩
     ·have:(ofBytes s).length = s.size:=by simp [ofBytes]
      simp [this]
     ·have:(ofBytes s).length = s.size:=by simp [ofBytes]
      show (ofBytes s).length ≤ _
      rw [this]; exact grownCap_ge w s.size 0 e
     ·intro j v hj
      have hlt:j < s.size:=by
       have:=(List.getElem?_eq_some_iff.1 hj).1
       simpa [ofBytes] using this
      refine ⟨.inr ⟨Nat.le_refl _,by rw [Lib.bytesWorld_size]; omega⟩,?_⟩
      rw [Nat.zero_add,Lib.bytesWorld_cell w e s j hlt]
      have hlt':j < s.data.size:=hlt
      simp only [ofBytes,List.map_map,List.getElem?_map] at hj
      rw [Array.getElem?_toList,Array.getElem?_eq_getElem hlt'] at hj
      simp only [Option.map_some,Option.some.injEq] at hj
      rw [← hj]
      have e1:s.data[j]? = some s.data[j]:=Array.getElem?_eq_getElem hlt'
      simp [List.getD,e1]
    ·cases h
   ·cases h
  ·cases h
 ·cases h
theorem bnd_rep {x:Option AV} {o:Option Int} {v:Option Value} (h:bnd x = some o) (hv:∀ a,x = some a → ∃ b,v = some b ∧ RepAV H μ w I a b) (hn:x = none → v = none) :
  (o = none ∧ v = none) ∨ ∃ i k,o = some i ∧ v = some (.int k i):=by
 unfold bnd at h
 split at h
 ·cases h
  exact .inl ⟨rfl,hn rfl⟩
 ·rename_i a
  split at h
  ·rename_i i hi
   cases h
   obtain ⟨b,rfl,hb⟩:=hv a rfl
   obtain ⟨k,rfl⟩:=w54 hi hb
   exact .inr ⟨i,k,rfl,rfl⟩
  ·cases h
theorem a64 {k:IntKind} {i:Int} {y:Nat} (h0:0 ≤ i) (h1:i ≤ y) (c:BoundsCode):(Instr.sliceBound (.int k i) y c).run P w = .ok i.toNat w:=by
 simp [Instr.sliceBound,asIntOf,h0,h1]
theorem B82 {isSlice:Bool} {len cap:Nat} {lo hi:Option Int} {vl vh:Option Value} (hl:(lo = none ∧ vl = none) ∨ ∃ i k,lo = some i ∧ vl = some (.int k i))
  (hh:(hi = none ∧ vh = none) ∨ ∃ i k,hi = some i ∧ vh = some (.int k i)) (h0:0 ≤ lo.getD 0) (h1:lo.getD 0 ≤ hi.getD len) (h2:hi.getD len ≤ len) (hc:len ≤ cap) :
  (Instr.sliceBounds isSlice len cap vl vh none).run P w = .ok ((lo.getD 0).toNat,(hi.getD len).toNat,cap) w:=by
 rcases hl with ⟨rfl,rfl⟩ | ⟨i,k,rfl,rfl⟩ <;> rcases hh with ⟨rfl,rfl⟩ | ⟨j,k',rfl,rfl⟩
 ·simp [Instr.sliceBounds]
 ·simp only [Option.getD_some,Option.getD_none] at *
  simp [Instr.sliceBounds,a64 (P:=P) (w:=w) (k:=k') (i:=j) (y:=cap) (by omega) (by omega)]
 ·simp only [Option.getD_some,Option.getD_none] at *
  simp [Instr.sliceBounds,a64 (P:=P) (w:=w) (k:=k) (i:=i) (y:=len) (by omega) (by omega)]
 ·simp only [Option.getD_some,Option.getD_none] at *
  have hj:(i:Int) ≤ (j.toNat:Nat):=by omega
  simp [Instr.sliceBounds,a64 (P:=P) (w:=w) (k:=k') (i:=j) (y:=cap) (by omega) (by omega),a64 (P:=P) (w:=w) (k:=k) (i:=i) (y:=j.toNat) (by omega) hj]
theorem run_bounds3 {isSlice:Bool} {len cap:Nat} {lo hi:Option Int} {m:Int} {vl vh:Option Value} {km:IntKind} (hl:(lo = none ∧ vl = none) ∨ ∃ i k,lo = some i ∧ vl = some (.int k i))
  (hh:∃ i k,hi = some i ∧ vh = some (.int k i)) (h0:0 ≤ lo.getD 0) (h1:lo.getD 0 ≤ hi.getD len) (h2:hi.getD len ≤ m) (hm:m ≤ len) (hc:len ≤ cap) :
  (Instr.sliceBounds isSlice len cap vl vh (some (.int km m))).run P w = .ok ((lo.getD 0).toNat,(hi.getD len).toNat,m.toNat) w:=by
 obtain ⟨j,k',rfl,rfl⟩:=hh
 have hj2:(j:Int) ≤ (m.toNat:Nat):=by simp only [Option.getD_some] at h2; omega
 rcases hl with ⟨rfl,rfl⟩ | ⟨i,k,rfl,rfl⟩
 ·simp only [Option.getD_some,Option.getD_none] at *
  simp [Instr.sliceBounds,a64 (P:=P) (w:=w) (k:=km) (i:=m) (y:=cap) (by omega) (by omega),a64 (P:=P) (w:=w) (k:=k') (i:=j) (y:=m.toNat) (by omega) hj2]
 ·simp only [Option.getD_some,Option.getD_none] at *
  have hj:(i:Int) ≤ (j.toNat:Nat):=by omega
  simp [Instr.sliceBounds,a64 (P:=P) (w:=w) (k:=km) (i:=m) (y:=cap) (by omega) (by omega),a64 (P:=P) (w:=w) (k:=k') (i:=j) (y:=m.toNat) (by omega) hj2,a64 (P:=P) (w:=w) (k:=k) (i:=i) (y:=j.toNat) (by omega) hj]
theorem sub_rep {e:Ty} {l:List e.den} {base:Option Addr} {cap:Nat} (hx:l = [] ∨ ∃ b o vs,base = some ⟨b,o,none⟩ ∧ RepLs (RepC w I e) l vs ∧ AtCells w I b o vs)
  {lo hi m:Nat} (h1:lo ≤ hi) (h2:hi ≤ l.length) (h3:hi ≤ m) (hmc:m ≤ cap) :
  RepC w I (.slice e) ((l.take hi).drop lo) [.slice (if m = lo then base else base.map (·.add (lo * e.width))) (hi - lo) (m - lo)]:=by
 have hlen:((l.take hi).drop lo).length = hi - lo:=by simp; omega
 refine ⟨_,m - lo,by rw [hlen],by rw [hlen]; omega,?_⟩
 rcases hx with rfl | ⟨b,o,vs,rfl,hls,hat⟩
 ·exact .inl (by simp)
 ·by_cases hm:m = lo
  ·refine .inl (List.eq_nil_of_length_eq_zero ?_)
   rw [hlen]; omega
  ·rw [if_neg hm]
   refine .inr ⟨b,o + lo * e.width,(vs.take (hi * e.width)).drop (lo * e.width),?_,(hls.take hi).drop lo,(hat.take _).drop _⟩
   simp [a93]
theorem slice_ok (hT:TypesOk P T) (hr:HeapRel B w0 H μ w I) {t:TypeId} {x:AV} {lo hi mx:Option AV} {f:Eff} {a:Value} {vl vh vm:Option Value}
  (h:(sliceA T H t x lo hi mx).eval = some f) (ha:RepAV H μ w I x a)
  (hl:∀ y,lo = some y → ∃ b,vl = some b ∧ RepAV H μ w I y b) (hl':lo = none → vl = none)
  (hh:∀ y,hi = some y → ∃ b,vh = some b ∧ RepAV H μ w I y b) (hh':hi = none → vh = none)
  (hm:∀ y,mx = some y → ∃ b,vm = some b ∧ RepAV H μ w I y b) (hm':mx = none → vm = none) :
  ∃ u,(Instr.sliceAt t a vl vh vm).run P w = .ok u w ∧ Done B w0 H μ w I f u w:=by
 unfold sliceA at h
 split at h
 ·rename_i ti lo' hi' mx' hti elo ehi emx
  have bl:=bnd_rep elo hl hl'
  have bh:=bnd_rep ehi hh hh'
  have bm:=bnd_rep emx hm hm'
  split at h
  ·rename_i el s htd
   split at h
   ·rename_i te hte
    split at h
    ·rename_i l hty hfz
     obtain ⟨I1,r1,x1,s1,con1⟩:=HeapRel.shows (H0:=H) s.rows hr (Shows.refl H) rfl
     obtain ⟨_,base,cap,hb,hcap,hx⟩:=fz_rep (I':=I1) hr hfz ha x1.keeps con1
     simp only [List.cons.injEq,and_true] at hb
     subst hb
     have hw:=((hT el te hte).ty hty).2.2
     have hrun:∀ {L Hh M:Nat},(Instr.sliceBounds true (List.length l) cap vl vh vm).run P w = .ok (L,Hh,M) w →
       (Instr.sliceAt t (.slice base (List.length l) cap) vl vh vm).run P w = .ok (.slice (if M = L then base else base.map (·.add (L * te.ty.width))) (Hh - L) (M - L)) w:=by
      intro L Hh M hb
      simp [Instr.sliceAt,Instr.slice,run_underlying (a95 (hT t ti hti) htd),hb,(hT el te hte).run_sizeOf,hw]
     unfold cutL at h
     split at h
     ·obtain ⟨hc,h2⟩:=a33 h
      cases h2
      simp only [Bool.and_eq_true,decide_eq_true_eq] at hc
      rcases bm with ⟨_,rfl⟩ | ⟨_,_,e,_⟩
      ·have hb:=B82 (P:=P) (w:=w) (isSlice:=true) (len:=List.length l) (cap:=cap) bl bh hc.1.1 hc.1.2 hc.2 hcap
       exact ⟨_,hrun hb,μ,I1,r1,x1,rfl,sub_rep hx (by omega) (by omega) (by omega) (Nat.le_refl _)⟩
      ·cases e
     ·rename_i m
      split at h
      ·cases h
      ·rename_i j
       obtain ⟨hc,h2⟩:=a33 h
       simp only [Bool.and_eq_true,decide_eq_true_eq] at hc
       rcases bm with ⟨e,_⟩ | ⟨m',km,e,rfl⟩
       ·cases e
       ·cases e
        have hb:=run_bounds3 (P:=P) (w:=w) (isSlice:=true) (len:=List.length l) (cap:=cap) (km:=km) (hi:=some j) bl (by
         rcases bh with ⟨e,_⟩ | ⟨i,k,e,hv⟩
         ·cases e
         ·exact ⟨i,k,e,hv⟩) hc.1.1.1 hc.1.1.2 hc.1.2 hc.2 hcap
        simp only [Option.getD_some] at hb
        have hsub:=sub_rep (I:=I1) (base:=base) hx (lo:=(lo'.getD 0).toNat) (hi:=j.toNat) (m:=m.toNat) (cap:=cap) (by omega) (by omega) (by omega) (by omega)
        refine ⟨_,hrun hb,?_⟩
        by_cases hjm:j = m
        ·simp only [Tree.eval,hjm,decide_true,cond_true,Option.some.injEq] at h2
         subst h2
         subst hjm
         refine ⟨μ,I1,r1,x1,?_⟩
         have hlen:((l.take j.toNat).drop (lo'.getD 0).toNat).length = j.toNat - (lo'.getD 0).toNat:=by simp; omega
         exact ⟨_,by rw [hlen],hsub⟩
        ·simp only [Tree.eval,hjm,decide_false,cond_false,Option.some.injEq] at h2
         subst h2
         exact ⟨μ,I1,r1,x1,rfl,hsub⟩
    ·cases h
   ·cases h
  ·rename_i n el id ver htd
   split at h
   ·rename_i te hte
    split at h
    ·rename_i e x vr l hid
     split at h
     ·rename_i hv
      obtain ⟨hv1,hv2,hv3⟩:=hv
      subst hv1
      subst hv3
      cases mx' with
      | some _=>cases h
      | none =>
      obtain ⟨hlen,h⟩:=a33 h
      have hlen:=of_decide_eq_true hlen
      obtain ⟨⟨e2,x2,vr2,l2,g1,g2,g3⟩,_⟩:=ha
      rw [hid] at g1; cases g1
      obtain ⟨b,m0,hm0,rfl⟩:=g3 rfl
      obtain ⟨I1,r1,x1,s1,con1⟩:=HeapRel.shows (H0:=H) [id] hr (Shows.refl H) rfl
      have hb0:=hr.blk id _ hid
      simp only [BlkOk,hm0] at hb0
      obtain ⟨c,el',vs,k1,k2,k3,k4⟩:=hb0
      have hx:l = [] ∨ ∃ b' o vs,some (⟨b,0,none⟩:Addr) = some ⟨b',o,none⟩ ∧ RepLs (RepC w I1 te.ty) l vs ∧ AtCells w I1 b' o vs:=by
       refine .inr ⟨b,0,vs,rfl,k3.mono fun _ _ hq=>RepC.mono x1.keeps _ _ _ hq,fun j v hj=>?_⟩
       have hvl:=k3.len
       have hjl:j < l.length * te.ty.width:=by rw [← hvl]; exact (List.getElem?_eq_some_iff.1 hj).1
       refine ⟨?_,by simpa using w26 k1 j v (B10 k4 hj)⟩
       have:=con1 id (by simp) b (0 + j) ⟨te.ty,x,vr,l,hid,⟨m0,hm0⟩,by simpa using hjl⟩
       exact this
      have hw:=((hT el te hte).ty hv2).2.2
      have hrun:∀ {L Hh M:Nat},(Instr.sliceBounds false n n vl vh vm).run P w = .ok (L,Hh,M) w →
        (Instr.sliceAt t (.pointer (some ⟨b,0,none⟩)) vl vh vm).run P w = .ok (.slice (if M = L then some ⟨b,0,none⟩ else (some (⟨b,0,none⟩:Addr)).map (·.add (L * te.ty.width))) (Hh - L) (M - L)) w:=by
       intro L Hh M hb
       simp [Instr.sliceAt,run_underlying (w38 (hT t ti hti) htd),hb,(hT el te hte).run_sizeOf,hw,Instr.sureAddr]
       split <;> rfl
      unfold cutL at h
      ·obtain ⟨hc,h2⟩:=a33 h
       cases h2
       simp only [Bool.and_eq_true,decide_eq_true_eq] at hc
       rcases bm with ⟨_,rfl⟩ | ⟨_,_,e,_⟩
       ·have hb:=B82 (P:=P) (w:=w) (isSlice:=false) (len:=List.length l) (cap:=List.length l) bl bh hc.1.1 hc.1.2 hc.2 (Nat.le_refl _)
        rw [hlen] at hb
        refine ⟨_,by simpa using hrun hb,μ,I1,r1,x1,rfl,?_⟩
        have:=sub_rep (I:=I1) (base:=some ⟨b,0,none⟩) hx (lo:=(lo'.getD 0).toNat) (hi:=(hi'.getD (List.length l)).toNat) (m:=List.length l) (cap:=List.length l) (by omega) (by omega) (by omega) (Nat.le_refl _)
        rw [← hlen]
        simpa using this
       ·cases e
     ·cases h
    ·cases h
   ·cases h
  ·rename_i s htd
   split at h
   ·cases h
   ·obtain ⟨hc,h2⟩:=a33 h
    cases Z6 h2
    cases w74 ha
    simp only [Bool.and_eq_true,decide_eq_true_eq] at hc
    rcases bm with ⟨_,rfl⟩ | ⟨_,_,e,_⟩
    ·have hb:=B82 (P:=P) (w:=w) (isSlice:=false) (len:=s.size) (cap:=s.size) bl bh hc.1.1 hc.1.2 hc.2 (Nat.le_refl _)
     refine ⟨_,?_,S3 hr (mk_str _)⟩
     simp [Instr.sliceAt,Instr.slice,run_underlying (B44 (hT t ti hti) htd),hb]
    ·cases e
  ·cases h
 ·cases h
end
section
variable {P:Program} {T:TypeId → Option TI} {B:Nat} {w0:Base} {H:List Blk} {μ:Mu} {w:World} {I:Cells}
theorem src_cells {e:Ty} {m:List e.den} {u:Value} (h:RepC w I (.slice e) m [u]) :
  ∃ xb xc news,u = .slice xb m.length xc ∧ RepLs (RepC w I e) m news ∧ ∀ w2:World,w2.heap = w.heap → (Builtin.firstCells e.width m.length u).run P w2 = .ok news.toArray w2:=by
 obtain ⟨base,cap,hb,_,hx⟩:=h
 simp only [List.cons.injEq,and_true] at hb
 subst hb
 rcases hx with rfl | ⟨b,o,vs,rfl,hls,hat⟩
 ·refine ⟨base,cap,[],rfl,rfl,fun w2 _=>?_⟩
  cases base <;> simp [Builtin.firstCells,loadCells,loadCellsFrom]
 ·refine ⟨_,cap,vs,rfl,hls,fun w2 hw2=>?_⟩
  refine run_firstCells_some w2 e.width m.length ⟨b,o,none⟩ m.length cap vs hls.len (fun j v hj=>?_)
  rw [a93]
  have:=(hat j v hj).2
  simpa [World.cell?,hw2] using this
theorem B51 {ats:Array TypeId} {t t' ty e:TypeId} (h0:ats[0]? = some t) (ha1:ats[1]? = some t') {i:TypeInfo} {z:Value} (ht:P.underlying t = some (.slice e)) (ht':P.underlying t' = some (.slice e)) (hi:P.info? e = some i) (hz:i.zero = some z)
  {base xb:Option Addr} {sLen sCap n xc:Nat} {olds news:Array Value}
  (ho:(Builtin.firstCells i.size sLen (.slice base sLen sCap)).run P w.drew = .ok olds w.drew) (hn:(Builtin.firstCells i.size n (.slice xb n xc)).run P w.drew = .ok news w.drew)
  (hg:sCap < sLen + n) (h63:((sLen + n:Nat):Int) ≤ 9223372036854775807) (hfit:Builtin.nextslicecap (sLen + n) sCap * i.bytes ≤ 281474976710656) :
  (Builtin.append_ ats ty #[.slice base sLen sCap,.slice xb n xc]).run P w =
   .ok (.slice (some ⟨w.heap.size,0,none⟩) (sLen + n) (grownCap w (sLen + n) sCap e))
    (w.drew.alloc (.cells (olds ++ news ++ Builtin.zeroCells z.cells (grownCap w (sLen + n) sCap e - (sLen + n))) e)):=by
 have hn':¬ (sLen + n ≤ sCap):=by omega
 have h63':¬ (9223372036854775807 < ((sLen:Int) + (n:Int))):=by omega
 have h48':¬ (281474976710656 < Builtin.nextslicecap (sLen + n) sCap * i.bytes):=by omega
 simp [Builtin.append_,h0,ha1,run_underlying ht,run_underlying ht',sizeOf,typeInfo,zeroValue,hi,hz,Builtin.lenOf,hn',h63',h48',Question.forced,ho,hn,newRow,grownCap]
theorem run_append_in {ats:Array TypeId} {t t' ty e el:TypeId} (h0:ats[0]? = some t) (ha1:ats[1]? = some t') {i:TypeInfo} (ht:P.underlying t = some (.slice e)) (ht':P.underlying t' = some (.slice e)) (hi:P.info? e = some i)
  {g sLen sCap n xc:Nat} {xb:Option Addr} {cur:Array Value} (hg:w.heap[g]? = some (.cells cur el (0,0))) {news:List Value}
  (hn:(Builtin.firstCells i.size n (.slice xb n xc)).run P w = .ok news.toArray w) (h1:∀ u ∈ news,u.oneCell' = true) (hroom:sLen + n ≤ sCap) (hfit:sLen * i.size + news.length ≤ cur.size) :
  (Builtin.append_ ats ty #[.slice (some ⟨g,0,none⟩) sLen sCap,.slice xb n xc]).run P w =
   .ok (.slice (some ⟨g,0,none⟩) (sLen + n) sCap) (w.setRow g (cur.toList.take (sLen * i.size) ++ news ++ cur.toList.drop (sLen * i.size + news.length)).toArray):=by
 have hst:=run_storeCells_at P g (sLen * i.size) el news 0 cur w hg (by simpa using hfit) h1
 simp only [Nat.add_zero] at hst
 simp [Builtin.append_,h0,ha1,run_underlying ht,run_underlying ht',sizeOf,typeInfo,hi,Builtin.lenOf,hroom,hn,a93,hst]
theorem w60 {ats:Array TypeId} {t t' ty e:TypeId} (h0:ats[0]? = some t) (ha1:ats[1]? = some t') {i:TypeInfo} (ht:P.underlying t = some (.slice e)) (ht':P.underlying t' = some (.slice e)) (hi:P.info? e = some i)
  {xc:Nat} {base xb:Option Addr}:(Builtin.append_ ats ty #[.slice base 0 0,.slice xb 0 xc]).run P w = .ok (.slice base 0 0) w:=by
 have hn:(Builtin.firstCells i.size 0 (.slice xb 0 xc)).run P w = .ok #[] w:=by
  cases xb <;> simp [Builtin.firstCells,loadCells,loadCellsFrom]
 cases base <;> simp [Builtin.append_,storeCells,h0,ha1,run_underlying ht,run_underlying ht',sizeOf,typeInfo,hi,Builtin.lenOf,hn]
theorem HeapRel.row_none (hr:HeapRel B w0 H μ w I) {id:Nat} {e:Ty} {x:Bool} {vr vr2:Nat} (hid:H[id]? = some (.row e x vr [])) (hm:μ id = none) (hv:vr ≤ vr2) :
  HeapRel B w0 (H.set id (.row e x vr2 [])) μ w I ∧ Ext H.length H μ w I (H.set id (.row e x vr2 [])) μ w I:=by
 have hlt:id < H.length:=(List.getElem?_eq_some_iff.1 hid).1
 have hx:Ext H.length H μ w I (H.set id (.row e x vr2 [])) μ w I:=Ext.set hid (Keeps.refl w I) (fun _ _=>rfl) ⟨x,vr2,[],rfl,hv,fun _=>⟨rfl,rfl⟩⟩
 refine ⟨hr.upd hlt hx (fun _ _=>rfl) (fun _ _ _ _ _ _ _ _=>rfl) ?_ ?_ ?_ (Below.refl _ _),hx⟩
 ·simp only [BlkOk,hm]
 ·intro g n _ hg; rw [hm] at hg; cases hg
 ·intro g o hi
  exact ⟨(hr.imm g o hi).1,(fun n hg _=>by rw [hm] at hg; cases hg),.inl hi⟩
theorem zeros_size {te:TI} (hT:TypesOk P T) {e:TypeId} (hte:T e = some te) (hty:te.hasTy = true):te.zero.cells.size = te.size:=by
 obtain ⟨h1,_,h3⟩:=(hT e te hte).ty hty
 rw [← Array.length_toList,h1,(w11 default (fun _ _=>True) te.ty).len,h3]
theorem append_ok (hT:TypesOk P T) (hr:HeapRel B w0 H μ w I) {nid:Nat} (hf:H[nid]? = some .free) {ats:Array TypeId} {t t':TypeId} (ht0:ats[0]? = some t) (ht1:ats[1]? = some t') {x y:AV} {f:Eff} {a c:Value}
  (h:(appendA T H nid t t' x y).eval = some f) (ha:RepAV H μ w I x a) (hc:RepAV H μ w I y c) (ty:TypeId) :
  ∃ u w',(Builtin.append_ ats ty #[a,c]).run P w = .ok u w' ∧ Done B w0 H μ w I f u w':=by
 unfold appendA at h
 split at h
 ·rename_i ti ti' s u hti hti'
  split at h
  ·rename_i e e' htd htd'
   split at h
   ·rename_i te hte
    split at h
    ·rename_i hcond
     obtain ⟨hty,rfl⟩:=hcond
     split at h
     ·rename_i m hm
      have ht:=a95 (hT t ti hti) htd
      have ht':=a95 (hT t' ti' hti') htd'
      obtain ⟨inf,hi,hs,hby,hz⟩:=(hT e te hte).info
      obtain ⟨q1,q2,q3⟩:=(hT e te hte).ty hty
      have hzs:=zeros_size hT hte hty
      obtain ⟨I1,r1,x1,s1,con1⟩:=HeapRel.shows (H0:=H) u.rows hr (Shows.refl H) rfl
      have hsrc:=(fz_rep (I':=I1) hr hm hc x1.keeps con1).2
      obtain ⟨xb,xc,news,rfl,hnews,hcells⟩:=src_cells (P:=P) hsrc
      have hnl:=hnews.len
      have hcells':∀ w2:World,w2.heap = w.heap → (Builtin.firstCells inf.size (List.length m) (.slice xb (List.length m) xc)).run P w2 = .ok news.toArray w2:=by
       intro w2 hw2; rw [hs,← q3]; exact hcells w2 hw2
      have hlen1:(E3 H (shown H u.rows)).length = H.length:=a55 _ _
      have hf1:(E3 H (shown H u.rows))[nid]? = some .free:=by
       rcases s1 nid _ hf with ⟨_,_,_,_,_,g,_⟩ | g
       ·cases g
       ·exact g
      have hfit:∀ {k cap:Nat},(k + List.length m) * te.bytes ≤ 140737488355328 → cap < k + List.length m → Builtin.nextslicecap (k + List.length m) cap * inf.bytes ≤ 281474976710656:=by
       intro k cap h1 h2
       rw [hby]
       exact growslice_fits h2 h1
      have mk:∀ {b:Blk} {v:AV} {μ':Mu} {w':World} {u':Value},HeapRel B w0 ((E3 H (shown H u.rows)).set nid b) μ' w' I1 →
        Ext H.length (E3 H (shown H u.rows)) μ w I1 ((E3 H (shown H u.rows)).set nid b) μ' w' I1 → RepAV ((E3 H (shown H u.rows)).set nid b) μ' w' I1 v u' →
        Done B w0 H μ w I ⟨v,shown H u.rows ++ [(nid,b)]⟩ u' w':=by
       intro b v μ' w' u' k1 k2 k3
       have hH:E3 H (shown H u.rows ++ [(nid,b)]) = (E3 H (shown H u.rows)).set nid b:=by simp only [a57,E3]
       refine ⟨μ',I1,?_,?_,?_⟩
       ·rw [hH]; exact k1
       ·rw [hH]; exact x1.trans k2
       ·rw [hH]; exact k3
      have fresh:∀ {l:List te.ty.den} {olds:List Value} {base:Option Addr} {cap:Nat},RepLs (RepC w I1 te.ty) l olds →
        (Builtin.firstCells inf.size l.length (.slice base l.length cap)).run P w.drew = .ok olds.toArray w.drew → cap < l.length + List.length m →
        (l.length + List.length m) * te.bytes ≤ 140737488355328 → l.length + List.length m ≤ lim →
        ∃ u' w',(Builtin.append_ ats ty #[.slice base l.length cap,.slice xb (List.length m) xc]).run P w = .ok u' w' ∧
         Done B w0 H μ w I ⟨.sc (.own nid 0),shown H u.rows ++ [(nid,.row te.ty true 0 (l ++ m))]⟩ u' w':=by
       intro l olds base cap hl ho hg hb hlm
       have hol:=hl.len
       have hrun:=B51 (P:=P) (w:=w) (ty:=ty) ht0 ht1 ht ht' hi hz ho (hcells' w.drew rfl) hg (by unfold lim at hlm; omega) (hfit hb hg)
       have hge:=grownCap_ge w (l.length + List.length m) cap e
       have hle:=grownCap_le_maxLen w (l.length + List.length m) cap e (by unfold lim at hlm; unfold maxLen; omega)
       have hlw:RepLs (RepC w.drew I1 te.ty) (l ++ m) (olds ++ news):=(hl.append hnews).mono fun _ _ hh=>RepC.mono (Ext.drew (H:=H) (μ:=μ) (I:=I1) 0).keeps _ _ _ hh
       obtain ⟨m1,m2⟩:=r1.drew.lay_row hf1 true 0 (c:=olds.toArray ++ news.toArray ++ Builtin.zeroCells te.zero.cells (grownCap w (l.length + List.length m) cap e - (l.length + List.length m))) e hlw (by
        rw [Array.toList_append,Array.toList_append]; exact List.take_left)
       have hsz:(olds.toArray ++ news.toArray ++ Builtin.zeroCells te.zero.cells (grownCap w (l.length + List.length m) cap e - (l.length + List.length m))).size =
         grownCap w (l.length + List.length m) cap e * te.ty.width:=by
        simp only [Array.size_append,List.size_toArray,size_zeroCells,hzs,hol,hnl,← q3,← Nat.add_mul]
        congr 1
        omega
       have hlt:=(List.getElem?_eq_some_iff.1 hf1).1
       have hown:=B47 (H:=(E3 H (shown H u.rows)).set nid (.row te.ty true 0 (l ++ m)))
        (μ:=muSet μ nid (some (w.drew.heap.size,(olds.toArray ++ news.toArray ++ Builtin.zeroCells te.zero.cells (grownCap w (l.length + List.length m) cap e - (l.length + List.length m))).size)))
        (w:=w.drew.alloc (.cells (olds.toArray ++ news.toArray ++ Builtin.zeroCells te.zero.cells (grownCap w (l.length + List.length m) cap e - (l.length + List.length m))) e)) (I:=I1)
        (a44 hlt _) (Z4 _ _ _) (cap:=grownCap w (l.length + List.length m) cap e) (by simp; omega) hle hsz.symm
       rw [List.length_append] at hown
       exact ⟨_,_,hrun,mk m1 ((Ext.drew _).trans (m2.mono (Nat.le_of_eq hlen1.symm))) hown⟩
      split at h
      ·
       obtain ⟨hh,h2⟩:=a33 h
       cases h2
       simp only [Bool.and_eq_true,decide_eq_true_eq] at hh
       cases ha
       cases m with
       | nil =>
        obtain ⟨m1,m2⟩:=r1.lay_none hf1 te.ty true 0
        have hlt:=(List.getElem?_eq_some_iff.1 hf1).1
        exact ⟨_,_,w60 (P:=P) (ty:=ty) ht0 ht1 ht ht' hi,mk m1 (m2.mono (Nat.le_of_eq hlen1.symm))
         ⟨⟨te.ty,true,0,[],a44 hlt _,Nat.le_refl _,fun _=>by rw [Z4]; exact ⟨rfl,_,rfl⟩⟩,_,_,_,rfl⟩⟩
       | cons m0 ms =>
        have:=fresh (l:=[]) (olds:=[]) (base:=none) (cap:=0) rfl (by simp [Builtin.firstCells]) (by simp) (by simpa using hh.1) (by simpa using hh.2)
        simpa using this
      ·
       rename_i e2 l hcl
       split at h
       ·rename_i l' hl'
        obtain ⟨hh,h2⟩:=a33 h
        cases h2
        simp only [Bool.and_eq_true,decide_eq_true_eq] at hh
        obtain ⟨he,hll⟩:=cast?_some hl'
        cases he
        subst hll
        obtain ⟨base,rfl,hrep⟩:=ha
        have hrep1:=RepC.mono x1.keeps _ _ _ hrep
        obtain ⟨ob,oc,olds,ho1,ho2,ho3⟩:=src_cells (P:=P) hrep1
        cases ho1
        by_cases hm0:0 < List.length m
        ·exact fresh ho2 (by rw [hs,← q3]; exact ho3 w.drew rfl) (by omega) hh.1.1 hh.1.2
        ·have hm1:m = []:=List.eq_nil_of_length_eq_zero (by omega)
         subst hm1
         have hl0:l' = []:=List.eq_nil_of_length_eq_zero (by
          rcases Bool.or_eq_true _ _ ▸ hh.2 with hq | hq
          ·exact absurd (of_decide_eq_true hq) hm0
          ·exact of_decide_eq_true hq)
         subst hl0
         obtain ⟨m1,m2⟩:=r1.lay_none hf1 te.ty true 0
         have hlt:=(List.getElem?_eq_some_iff.1 hf1).1
         exact ⟨_,_,w60 (P:=P) (ty:=ty) ht0 ht1 ht ht' hi,mk m1 (m2.mono (Nat.le_of_eq hlen1.symm))
          ⟨⟨te.ty,true,0,[],a44 hlt _,Nat.le_refl _,fun _=>by rw [Z4]; exact ⟨rfl,_,rfl⟩⟩,_,_,_,rfl⟩⟩
       ·cases h
      ·
       rename_i id ver
       split at h
       ·rename_i e2 ex vr l hid
        split at h
        ·rename_i hcond2
         obtain ⟨hv,hni⟩:=hcond2
         split at h
         ·rename_i l' hl'
          obtain ⟨hh,h2⟩:=a33 h
          cases h2
          simp only [Bool.and_eq_true,decide_eq_true_eq] at hh
          obtain ⟨he,hll⟩:=cast?_some hl'
          cases he
          subst hll
          obtain ⟨l,rfl⟩:∃ l,l = l':=⟨_,rfl⟩
          obtain ⟨⟨e3,x3,vr3,l3,g1,g2,g3⟩,_⟩:=ha
          rw [hid] at g1; cases g1
          have hown:=g3 hv.symm
          subst hv
          have hid1:(E3 H (shown H u.rows))[id]? = some (.row te.ty ex vr l):=by
           rw [B33 (by simpa using hni)]; exact hid
          have hlt1:=(List.getElem?_eq_some_iff.1 hid1).1
          have fin:∀ {u':Value} {w':World} {μ':Mu} {H':List Blk},E3 H (shown H u.rows ++ [(id,.row te.ty ex (vr + 1) (l ++ m))]) = H' →
            (Builtin.append_ ats ty #[a,.slice xb (List.length m) xc]).run P w = .ok u' w' → HeapRel B w0 H' μ' w' I1 → Ext H.length (E3 H (shown H u.rows)) μ w I1 H' μ' w' I1 →
            OwnRep (μ' id) te.ty (l ++ m) u' → (∃ a n c,u' = .slice a n c) →
            ∃ u' w',(Builtin.append_ ats ty #[a,.slice xb (List.length m) xc]).run P w = .ok u' w' ∧
             Done B w0 H μ w I ⟨.sc (.own id (vr + 1)),shown H u.rows ++ [(id,.row te.ty ex (vr + 1) (l ++ m))]⟩ u' w':=by
           intro u' w' μ' H' hH k1 k2 k3 k4 k5
           subst hH
           refine ⟨u',w',k1,μ',I1,k2,x1.trans k3,⟨te.ty,ex,vr + 1,l ++ m,?_,Nat.le_refl _,fun _=>k4⟩,k5⟩
           simp only [a57,E3]
           exact a44 hlt1 _
          have hH:E3 H (shown H u.rows ++ [(id,.row te.ty ex (vr + 1) (l ++ m))]) = (E3 H (shown H u.rows)).set id (.row te.ty ex (vr + 1) (l ++ m)):=by
           simp only [a57,E3]
          have grow:∀ {olds:List Value} {base:Option Addr} {cap:Nat},a = .slice base l.length cap → RepLs (RepC w I1 te.ty) l olds →
            (Builtin.firstCells inf.size l.length (.slice base l.length cap)).run P w.drew = .ok olds.toArray w.drew → cap < l.length + List.length m →
            ∃ u' w',(Builtin.append_ ats ty #[a,.slice xb (List.length m) xc]).run P w = .ok u' w' ∧
             Done B w0 H μ w I ⟨.sc (.own id (vr + 1)),shown H u.rows ++ [(id,.row te.ty ex (vr + 1) (l ++ m))]⟩ u' w':=by
           intro olds base cap haa hl ho hg
           have hol:=hl.len
           have hrun:=B51 (P:=P) (w:=w) (ty:=ty) ht0 ht1 ht ht' hi hz ho (hcells' w.drew rfl) hg (by have:=hh.2; unfold lim at this; omega) (hfit hh.1 hg)
           rw [← haa] at hrun
           have hge:=grownCap_ge w (l.length + List.length m) cap e
           have hle:=grownCap_le_maxLen w (l.length + List.length m) cap e (by have:=hh.2; unfold lim at this; unfold maxLen; omega)
           have hlw:RepLs (RepC w.drew I1 te.ty) (l ++ m) (olds ++ news):=(hl.append hnews).mono fun _ _ hh=>RepC.mono (Ext.drew (H:=H) (μ:=μ) (I:=I1) 0).keeps _ _ _ hh
           have hsz:(olds.toArray ++ news.toArray ++ Builtin.zeroCells te.zero.cells (grownCap w (l.length + List.length m) cap e - (l.length + List.length m))).size =
             grownCap w (l.length + List.length m) cap e * te.ty.width:=by
            simp only [Array.size_append,List.size_toArray,size_zeroCells,hzs,hol,hnl,← q3,← Nat.add_mul]
            congr 1
            omega
           obtain ⟨m1,m2⟩:=r1.drew.row_move hid1 (c:=olds.toArray ++ news.toArray ++ Builtin.zeroCells te.zero.cells (grownCap w (l.length + List.length m) cap e - (l.length + List.length m))) e hlw (by
            rw [Array.toList_append,Array.toList_append]; exact List.take_left) (Nat.lt_succ_self vr)
           refine fin hH hrun m1 ((Ext.drew _).trans (m2.mono (Nat.le_of_eq hlen1.symm))) ?_ ⟨_,_,_,rfl⟩
           rw [Z4]
           exact ⟨grownCap w (l.length + List.length m) cap e,by rw [List.length_append]; rfl,by rw [List.length_append]; exact hge,hle,hsz.symm⟩
          cases hmu:μ id with
          | none =>
           rw [hmu] at hown
           obtain ⟨hl0,base0,rfl⟩:=hown
           subst hl0
           cases m with
           | nil =>
            obtain ⟨m1,m2⟩:=r1.row_none hid1 hmu (Nat.le_succ vr)
            refine fin hH (w60 (P:=P) (ty:=ty) ht0 ht1 ht ht' hi) m1 (m2.mono (Nat.le_of_eq hlen1.symm)) ?_ ⟨_,_,_,rfl⟩
            rw [hmu]
            exact ⟨rfl,_,rfl⟩
           | cons m0 ms=>exact grow (olds:=[]) rfl rfl (by cases base0 <;> simp [Builtin.firstCells,loadCells,loadCellsFrom]) (by simp)
          | some p =>
           obtain ⟨b,n⟩:=p
           rw [hmu] at hown
           obtain ⟨cap,rfl,hc1,hc2,hc3⟩:=hown
           have hblk:=r1.blk id _ hid1
           simp only [BlkOk,hmu] at hblk
           obtain ⟨cc,el,vs,k1,k2,k3,k4⟩:=hblk
           have hvl:=k3.len
           by_cases hroom:l.length + List.length m ≤ cap
           ·have hfit2:l.length * inf.size + news.length ≤ cc.size:=by
             rw [hs,← q3,hnl,k2,← hc3,← Nat.add_mul]
             exact Nat.mul_le_mul_right _ hroom
            have hrun:=run_append_in (P:=P) (w:=w) (ty:=ty) (sCap:=cap) (sLen:=l.length) ht0 ht1 ht ht' hi k1 (hcells' w rfl) hnews.one hroom hfit2
            rw [hs,← q3,← hvl] at hrun
            have hvn:vs.length + news.length ≤ cc.size:=by rw [hvl,q3,← hs]; exact hfit2
            have hcl:cc.toList.length = cc.size:=Array.length_toList
            obtain ⟨m1,m2⟩:=r1.row_write (c':=(cc.toList.take vs.length ++ news ++ cc.toList.drop (vs.length + news.length)).toArray) hid1 hmu k1 (vr2:=vr + 1)
             (by simp; omega) (k3.append hnews) (by
              simp only []
              rw [k4]
              exact List.take_left)
             (fun o hio=>by
              obtain ⟨_,himm⟩:=r1.imm b o hio
              obtain ⟨e',vr',l',hq,ho⟩:=himm id _ n hid1 rfl hmu
              cases hq
              have ho':o < vs.length:=by rw [hvl]; exact ho
              have ho2:o < cc.size:=by omega
              simp [List.getElem?_append,ho',ho2]
              have hmin:min vs.length cc.size = vs.length:=by omega
              intro hle
              omega)
             (Nat.le_succ vr) (fun hq=>by omega) (by simp)
            refine fin hH hrun m1 (m2.mono (Nat.le_of_eq hlen1.symm)) ?_ ⟨_,_,_,rfl⟩
            rw [hmu]
            exact ⟨cap,by rw [List.length_append],by rw [List.length_append]; exact hroom,hc2,hc3⟩
           ·have ho:(Builtin.firstCells inf.size l.length (.slice (some ⟨b,0,none⟩) l.length cap)).run P w.drew = .ok vs.toArray w.drew:=by
             refine run_firstCells_some w.drew inf.size l.length ⟨b,0,none⟩ l.length cap vs (by rw [hs,← q3]; exact hvl) (fun j v hj=>?_)
             rw [a93]
             exact w26 k1 j v (B10 k4 hj)
            exact grow rfl k3 ho (by omega)
         ·cases h
        ·cases h
       ·cases h
      ·cases h
     ·cases h
    ·cases h
   ·cases h
  ·cases h
 ·cases h
end
def RepOut (w:World) (I:Cells):(ts:List Ty) → Args ts → Value → Prop
 | [t],x,v=>RepV w I t x.1 v
 | ts,x,v=>∃ vs:Array Value,v = .tuple vs ∧ RepArgs w I ts x vs.toList
def FreshRep (w w':World) (I J:Cells) (e:Ty) (l:List e.den) (v:Value):Prop :=
 (l = [] ∧ ∃ base,v = .slice base 0 0) ∨
 ∃ b cap c el vs,v = .slice (some ⟨b,0,none⟩) l.length cap ∧ w.heap.size ≤ b ∧ w'.heap[b]? = some (.cells c el (0,0)) ∧ l.length ≤ cap ∧ cap ≤ maxLen ∧ cap * e.width = c.size ∧
  RepLs (RepC w' (orCells I J) e) l vs ∧ c.toList.take vs.length = vs ∧ ∀ o,¬ J b o
def RepRes (w w':World) (I J:Cells) (sg:Sig) (y:Args sg.res) (v:Value):Prop :=
 match sg.fresh with
 | false=>RepOut w' (orCells I J) sg.res y v
 | true=>∃ e,∃ l:List e.den,toAs sg.res y = [.sc (.lf (.slice e) l)] ∧ FreshRep w w' I J e l v
def Contract (P:Program) (WI:World → Cells → Prop) (K:FuncId) (sg:Sig):Prop :=
 ∀ (w:World) (I:Cells) (vals:List Value) (x:Args sg.args),WI w I → (∀ b o,I b o → b < w.heap.size) → RepArgs w I sg.args x vals → sg.dom x = true →
  Calls P K vals.toArray w fun e w'=>∃ v J,e = .returned v ∧ Below w.heap.size w w' ∧ (∀ b o,J b o → w.heap.size ≤ b ∧ b < w'.heap.size) ∧ RepRes w w' I J sg (sg.val x) v
def Enters (P:Program) (K:FuncId):Prop:=∃ fn,P.funcs[K]? = some fn ∧ (fn.name == "runtime.NumGoroutine") = false ∧ fn.body.isNone = false
def PrimOk (P:Program) (WI:World → Cells → Prop) (K:FuncId) (p:Prim):Prop :=
 ∀ {B:Nat} {w0:Base} {H:List Blk} {μ:Mu} {w:World} {I:Cells} {nid:Nat} {as:List AV} {f:Eff} {vs:List Value},WI w I → HeapRel B w0 H μ w I → H[nid]? = some .free →
  (p.f H nid as).eval = some f → Each (RepAV H μ w I) as vs → Calls P K vs.toArray w fun e w'=>∃ u,e = .returned u ∧ Done B w0 H μ w I f u w'
def GlobOk (w:World) (I:Cells) (g:Nat) (G:Glob):Prop:=∃ vs,RepLs (RepC w I G.e) G.l vs ∧ AtCells w I g 0 vs
structure EnvOk (P:Program) (E:Env) (WI:World → Cells → Prop):Prop where
 types:TypesOk P E.T
 sigs:∀ K sg,E.sig K = some sg → Contract P WI K sg
 inls:∀ K fn,E.inl K = some fn → P.funcs[K]? = some fn
 prims:∀ K p,E.prim K = some p → PrimOk P WI K p
 globs:∀ g G,E.glob g = some G → ∀ w I,WI w I → GlobOk w I g G
 arrs:ArrsOk E.T
 enters:∀ K,(E.sig K).isSome = true ∨ (E.inl K).isSome = true ∨ (E.prim K).isSome = true → Enters P K
 wi:∀ w w' I I',Keeps w w' I I' → WI w I → WI w' I'
 mixed:P.follows .mixedOrders = true
theorem Enters.run {P:Program} {K:FuncId} (h:Enters P K) (args:Array Value) (w:World):(callFunc K args).run P w = .ok (.enter K args) w:=by
 obtain ⟨fn,h1,h2,h3⟩:=h
 unfold callFunc
 rw [Sem.run_bind,run_program,Result.andThen_ok,h1]
 simp only [h2,h3,Bool.false_eq_true,if_false]
 rfl
section
variable {P:Program} {E:Env} {WI:World → Cells → Prop} {B:Nat} {w0:Base} {H:List Blk} {μ:Mu} {w:World} {I:Cells}
theorem HeapRel.take_row (hr:HeapRel B w0 H μ w I) {nid:Nat} (hf:H[nid]? = some .free) {e:Ty} {l:List e.den} {b:Nat} {c:Array Value} {el:TypeId} {vs:List Value}
  (hb:w.heap[b]? = some (.cells c el (0,0))) (hB:B ≤ b) (hl:RepLs (RepC w I e) l vs) (ht:c.toList.take vs.length = vs)
  (hno:∀ (j:Nat) (x:Blk) (n:Nat),H[j]? = some x → x.live = true → μ j ≠ some (b,n)) (hI:∀ o,¬ I b o) :
  HeapRel B w0 (H.set nid (.row e true 0 l)) (muSet μ nid (some (b,c.size))) w I ∧ Ext H.length H μ w I (H.set nid (.row e true 0 l)) (muSet μ nid (some (b,c.size))) w I:=by
 have hlt:nid < H.length:=(List.getElem?_eq_some_iff.1 hf).1
 have hx:Ext H.length H μ w I (H.set nid (.row e true 0 l)) (muSet μ nid (some (b,c.size))) w I:=Ext.set hf (Keeps.refl w I) (fun j hj=>a84 μ _ hj) trivial
 refine ⟨hr.upd hlt hx (fun j hj=>a84 μ _ hj) (fun _ _ _ _ _ _ _ _=>rfl) ?_ ?_ ?_ (Below.refl _ _),hx⟩
 ·have:BlkOk (H.set nid (.row e true 0 l)) (muSet μ nid (some (b,c.size))) w I nid (.row e true 0 l) =
   (match muSet μ nid (some (b,c.size)) nid with
   | none=>l = []
   | some (b,n)=>∃ c' el',∃ vs,w.heap[b]? = some (.cells c' el' (0,0)) ∧ c'.size = n ∧ RepLs (RepC w I e) l vs ∧ c'.toList.take vs.length = vs):=rfl
  rw [this,Z4]
  exact ⟨c,el,vs,hb,rfl,hl,ht⟩
 ·intro g n _ hg
  rw [Z4] at hg; cases hg
  exact ⟨hB,fun j x n' _ hx' hl'=>hno j x n' hx' hl'⟩
 ·intro g o hi
  refine ⟨(hr.imm g o hi).1,fun n hg _=>?_,.inl hi⟩
  rw [Z4] at hg; cases hg
  exact absurd hi (hI o)
theorem out_rep:∀ (ts:List Ty) {y:Args ts} {v:Value},RepOut w I ts y v → RepAV H μ w I (avRes ts y) v
 | [],y,v,h=>by
  obtain ⟨vs,rfl,h⟩:=h
  exact ⟨vs,rfl,toAs_rep _ h⟩
 | [t],y,v,h=>toA_rep h
 | t :: t' :: ts,y,v,h=>by
  obtain ⟨vs,rfl,h⟩:=h
  exact ⟨vs,rfl,toAs_rep _ h⟩
theorem sigA_ok (hE:EnvOk P E WI) (hw:WI w I) (hr:HeapRel B w0 H μ w I) {nid:Nat} (hf:H[nid]? = some .free) {K:FuncId} {sg:Sig} (hK:E.sig K = some sg) {as:List AV} {f:Eff} {vs:List Value}
  (h:(sigA H nid sg as).eval = some f) (hv:Each (RepAV H μ w I) as vs) :
  Calls P K vs.toArray w fun e w'=>∃ u,e = .returned u ∧ Done B w0 H μ w I f u w':=by
 unfold sigA at h
 split at h
 ·rename_i x hx
  obtain ⟨hdom,h2⟩:=a33 h
  obtain ⟨I1,r1,x1,s1,con1⟩:=HeapRel.shows (H0:=H) (argRows as) hr (Shows.refl H) rfl
  have hargs:=B73 (I':=I1) hr x1.keeps sg.args hx hv con1
  have hlen1:(E3 H (shown H (argRows as))).length = H.length:=a55 _ _
  refine (hE.sigs K sg hK w I1 vs x (hE.wi _ _ _ _ x1.keeps hw) (fun b o hi=>(r1.imm b o hi).1) hargs hdom).mono ?_
  rintro e w' ⟨v,J,rfl,hbel,hJ,hres⟩
  refine ⟨v,rfl,?_⟩
  obtain ⟨r2,x2⟩:=r1.called hbel hJ
  unfold RepRes at hres
  split at hres
  ·rename_i hfr
   rw [hfr] at h2
   cases h2
   exact ⟨μ,_,r2,x1.trans (x2.mono (Nat.le_of_eq hlen1.symm)),out_rep _ hres⟩
  ·rename_i hfr
   rw [hfr] at h2
   obtain ⟨e,l,hto,hfresh⟩:=hres
   simp only [hto] at h2
   cases h2
   have hf1:(E3 H (shown H (argRows as)))[nid]? = some .free:=by
    rcases s1 nid _ hf with ⟨_,_,_,_,_,g,_⟩ | g
    ·cases g
    ·exact g
   have hlt:=(List.getElem?_eq_some_iff.1 hf1).1
   have hH:E3 H (shown H (argRows as) ++ [(nid,.row e true 0 l)]) = (E3 H (shown H (argRows as))).set nid (.row e true 0 l):=by simp only [a57,E3]
   rcases hfresh with ⟨rfl,base0,rfl⟩ | ⟨b,cap,c,el,us,rfl,hb1,hb2,hc1,hc2,hc3,hus,hut,hJb⟩
   ·obtain ⟨m1,m2⟩:=r2.lay_none hf1 e true 0
    refine ⟨_,_,by rw [hH]; exact m1,by rw [hH]; exact x1.trans ((x2.trans m2).mono (Nat.le_of_eq hlen1.symm)),?_⟩
    rw [hH]
    exact ⟨⟨e,true,0,[],a44 hlt _,Nat.le_refl _,fun _=>by rw [Z4]; exact ⟨rfl,_,rfl⟩⟩,_,_,_,rfl⟩
   ·obtain ⟨m1,m2⟩:=r2.take_row hf1 hb2 (Nat.le_trans hr.base hb1) hus hut
     (fun j x n hx' hl' hm=>by have:=r1.blk_lt hx' hl' hm; omega)
     (fun o hi=>by
      rcases hi with hi | hi
      ·have:=(r1.imm b o hi).1; omega
      ·exact hJb o hi)
    refine ⟨_,_,by rw [hH]; exact m1,by rw [hH]; exact x1.trans ((x2.trans m2).mono (Nat.le_of_eq hlen1.symm)),?_⟩
    rw [hH]
    exact B47 (a44 hlt _) (Z4 _ _ _) hc1 hc2 hc3
 ·cases h
def OpSound (P:Program) (ρ:Operand → Value) (o:Oper) (w:World) (Post:Value → World → Prop):Prop :=
 (∃ u w',(execOp ρ o).run P w = .ok (.value u) w' ∧ Post u w') ∨ (∃ w',(execOp ρ o).run P w = .ok .skip w' ∧ Post undef w') ∨
 (∃ K vals,(execOp ρ o).run P w = .ok (.enter K vals) w ∧ Calls P K vals w fun e w'=>∃ u,e = .returned u ∧ Post u w')
theorem OpSound.wp {o:Oper} {a:Act} {Post:Value → World → Prop} (h:OpSound P a.eval o w Post) {next:Act → World → Prop} {Q:Exit → Act → World → Prop}
  (hn:∀ u w',Post u w' → next (a.put o.dst u) w'):o.wp P a w next Q:=by
 unfold Oper.wp
 rcases h with ⟨u,w',h1,h2⟩ | ⟨w',h1,h2⟩ | ⟨K,vals,h1,h2⟩
 ·rw [h1]; exact hn u w' h2
 ·rw [h1]; exact hn undef w' h2
 ·rw [h1]
  exact h2.mono fun e w' ⟨u,he,hp⟩=>by subst he; exact hn u w' hp
theorem C83 {f:AV} {v:Value} {K:Nat} {pre post:List AV} (h:target f = some (K,pre,post)) (hv:RepAV H μ w I f v) :
  ∃ va vb:Array Value,v = .func (.func K) va vb ∧ Each (RepAV H μ w I) pre va.toList ∧ Each (RepAV H μ w I) post vb.toList:=by
 unfold target at h
 split at h
 ·cases h
  have:=hv.2
  simp only [RepC,fnVal,List.cons.injEq,and_true] at this
  subst this
  exact ⟨#[],#[],rfl,trivial,trivial⟩
 ·cases h
  obtain ⟨va,vb,rfl,h1,h2⟩:=hv
  exact ⟨va,vb,rfl,Each.map _ (h1.mono fun p _ _ hp=>hp),Each.map _ (h2.mono fun p _ _ hp=>hp)⟩
 ·cases h
theorem B22 {ev:Operand → AV} {ρ:Operand → Value} (h:∀ x,RepAV H μ w I (ev x) (ρ x)):∀ l:List Operand,Each (RepAV H μ w I) (l.map ev) (l.map ρ)
 | []=>trivial
 | x :: l=>⟨h x,B22 h l⟩
theorem B58 {ev:Operand → AV} {ρ:Operand → Value} (h:∀ x,RepAV H μ w I (ev x) (ρ x)):∀ l:List (Nat × Operand),
  Each (fun (p:Nat × AV) (q:Nat × Value)=>p.1 = q.1 ∧ RepAV H μ w I p.2 q.2) (l.map fun p=>(p.1,ev p.2)) (l.map fun p=>(p.1,ρ p.2))
 | []=>trivial
 | p :: l=>⟨⟨rfl,h p.2⟩,B58 h l⟩
theorem w95 {ρ:Operand → Value} {f:Operand} {args:Array Operand} {ts:Array TypeId} {t:TypeId} {K:Nat} {va vb:Array Value} (h:ρ f = .func (.func K) va vb) :
  (do let d ← resolve ρ { callee:=.value f,args,argTypes:=ts } t; invoke d.target d.args).run P w = (callFunc K (va ++ args.map ρ ++ vb)).run P w:=by
 simp [resolve,h,Deferred.ofValue,invoke]
theorem globLoad_ok (hE:EnvOk P E WI) (hw:WI w I) (hr:HeapRel B w0 H μ w I) {t:TypeId} {g:Nat} {f:Eff} (h:(C02 E t g).eval = some f) {ρ:Value} (hρ:ρ = .pointer (some ⟨g,0,none⟩)) :
  ∃ u,(Instr.loadAt t ρ).run P w = .ok u w ∧ Done B w0 H μ w I f u w:=by
 unfold C02 at h
 split at h
 ·rename_i ti G hti hG
  split at h
  ·rename_i x hx
   obtain ⟨vs,hls,hat⟩:=hE.globs g G hG w I hw
   rw [hx] at hls
   obtain ⟨a,b,e,h1,h2⟩:=hls
   have hb:b = []:=h2
   subst hb
   rw [List.append_nil] at e
   subst e
   refine load_ok hE.types hr (x:=.sc (.rptr (leaves G.e x))) (by simpa [loadA,hti] using h) ?_
   exact ⟨g,0,vs,hρ,hat,w07 G.e h1⟩
  ·cases h
 ·cases h
theorem globIndex_ok (hE:EnvOk P E WI) (hw:WI w I) (hr:HeapRel B w0 H μ w I) {t:TypeId} {g:Nat} {ix:AV} {c:Value} {f:Eff} (h:(B57 E t g ix).eval = some f) (hc:RepAV H μ w I ix c)
  {ρ:Value} (hρ:ρ = .pointer (some ⟨g,0,none⟩)):∃ u,(Instr.indexAt t ρ c).run P w = .ok u w ∧ Done B w0 H μ w I f u w:=by
 unfold B57 at h
 split at h
 ·rename_i ti G i hti hG hi
  obtain ⟨k,rfl⟩:=w54 hi hc
  split at h
  ·rename_i n el htd
   split at h
   ·rename_i te hte
    split at h
    ·rename_i l hl
     simp only at h
     split at h
     ·rename_i hcond
      obtain ⟨hty,hln⟩:=hcond
      obtain ⟨hh,h2⟩:=a33 h
      cases Z6 h2
      simp only [Bool.and_eq_true,decide_eq_true_eq] at hh
      have hT:=hE.types
      obtain ⟨vs,hls,hat⟩:=hE.globs g G hG w I hw
      obtain ⟨Ge,Gl⟩:=G
      obtain ⟨he,hll⟩:=cast?_some hl
      cases he
      subst hll
      simp only at hls hln hh
      have hlt:i.toNat < List.length l:=by omega
      have hw2:te.ty.width = te.size:=((hT el te hte).ty hty).2.2
      subst hρ
      refine ⟨.pointer (some ⟨g,0 + i.toNat * te.size,none⟩),?_,S3 hr ⟨g,0 + i.toNat * te.size,(vs.drop (i.toNat * te.ty.width)).take te.ty.width,rfl,?_,?_⟩⟩
      ·simp [Instr.indexAt,asIntOf,run_underlying (w38 (hT t ti hti) htd),hh.1,hh.2,(hT el te hte).run_sizeOf,a93,Instr.sureAddr]
      ·rw [← hw2]; exact (hat.drop _).take _
      ·have:=w62 (e:=te.ty) i.toNat hlt hls
       rw [getD_eq hlt]
       exact w07 te.ty this
     ·cases h
    ·cases h
   ·cases h
  ·cases h
 ·cases h
theorem D14 (w:World) (d:Nat) (t:TypeId) {td:TypeDesc} (h:P.underlying t = some td) (hi:tdOf td = .iface):(Op.equalIn (d + 1) t .nilIface .nilIface).run P w = .ok true w:=by
 cases td <;> simp [tdOf] at hi
 simp [Op.equalIn,run_underlying h]
theorem B87 (w:World) (t:TypeId) {td:TypeDesc} (h:P.underlying t = some td) (hi:tdOf td = .iface):(Op.equal t .nilIface .nilIface).run P w = .ok true w:=D14 w 9999 t h hi
theorem nilEq_ok {T:TypeId → Option TI} (hT:TypesOk P T) (hr:HeapRel B w0 H μ w I) {op:BinOp} {t:TypeId} {x y:Operand} {f:Eff} {a b:Value}
  (h:(nilEqA T op t (isConst x || isConst y)).eval = some f) (ha:RepAV H μ w I (.sc .nilI) a) (hb:RepAV H μ w I (.sc .nilI) b) :
  ∃ u,(do eqGuard op t x y a b; binOp op t a b).run P w = .ok u w ∧ Done B w0 H μ w I f u w:=by
 have ha':a = .nilIface:=ha
 have hb':b = .nilIface:=hb
 subst ha' hb'
 unfold nilEqA at h
 split at h
 ·rename_i ti hti
  have hund:∀ d,ti.td = .iface → P.underlying t = some d → ∃ ms,d = .interface ms:=by
   intro d htd hd
   obtain ⟨d',h1,h2⟩:=(hT t ti hti).und
   rw [hd] at h1; cases h1
   rw [htd] at h2
   cases d <;> simp [tdOf] at h2
   exact ⟨_,rfl⟩
  have hg:∀ op,(op = .eql ∨ op = .neq) → (isConst x || isConst y) = true → (eqGuard op t x y .nilIface .nilIface).run P w = .ok () w:=by
   intro op hop hl
   unfold eqGuard
   rcases hop with rfl | rfl <;> cases x <;> cases y <;> simp [isConst] at hl ⊢
  split at h
  ·rename_i htd hlit
   cases h
   obtain ⟨d,h1,_⟩:=(hT t ti hti).und
   obtain ⟨ms,rfl⟩:=hund d htd h1
   refine ⟨.bool true,?_,S3 hr (w73 _)⟩
   rw [Sem.run_bind,hg .eql (.inl rfl) hlit]
   simp only [binOp]
   simp [B87 w t h1 rfl]
  ·rename_i htd hlit
   cases h
   obtain ⟨d,h1,_⟩:=(hT t ti hti).und
   obtain ⟨ms,rfl⟩:=hund d htd h1
   refine ⟨.bool false,?_,S3 hr (w73 _)⟩
   rw [Sem.run_bind,hg .neq (.inr rfl) hlit]
   simp only [binOp]
   simp [B87 w t h1 rfl]
  ·cases h
 ·cases h
theorem C32 {b n:Nat} {c:Array Value} {el:TypeId} {fr:Nat × Nat} (hb:w.heap[b]? = some (.cells c el fr)):(markStringish ⟨b,n,none⟩).run P w = .ok () (w.freeze ⟨b,c.size,none⟩ 1):=by
 have hs:w.shape? b = some (el,c.size):=by unfold World.shape?; rw [hb]
 simp [markStringish,hs]
theorem B11 (w:World) (b k n g:Nat) (hg:g ≠ b):(w.freeze ⟨b,k,none⟩ n).heap[g]? = w.heap[g]?:=by
 unfold World.freeze
 split
 ·rfl
 ·show (w.heap.modify b _)[g]? = _
  rw [Array.getElem?_modify]
  rw [if_neg (fun e=>hg e.symm)]
theorem C42 (w:World) (b k n:Nat):(w.freeze ⟨b,k,none⟩ n).heap.size = w.heap.size:=by
 unfold World.freeze
 split
 ·rfl
 ·simp
theorem freeze_cell (w:World) (b k n:Nat) (a:Addr):(w.freeze ⟨b,k,none⟩ n).cell? a = w.cell? a:=by
 by_cases hg:a.block = b
 ·by_cases hn:n = 0
  ·subst hn; rfl
  ·have hh:(w.freeze ⟨b,k,none⟩ n).heap[a.block]? = (w.heap[a.block]?).map fun
     | .cells c elem (lo,hi)=>.cells c elem (if lo == hi then (k,k + n) else (min lo k,max hi (k + n)))
     | o=>o:=by
    unfold World.freeze
    rw [if_neg hn]
    show (w.heap.modify b _)[a.block]? = _
    rw [Array.getElem?_modify,if_pos hg.symm]
    cases w.heap[a.block]? with
    | none=>rfl
    | some o=>cases o <;> rfl
   unfold World.cell?
   rw [hh]
   cases w.heap[a.block]? with
   | none=>rfl
   | some o=>cases o <;> rfl
 ·unfold World.cell?
  rw [B11 w b k n a.block hg]
theorem bytesConst_ok {T:TypeId → Option TI} (hT:TypesOk P T) (hr:HeapRel B w0 H μ w I) {s id ver:Nat} {f:Eff} {a:Value}
  (h:(w82 T H s id ver).eval = some f) (ha:RepAV H μ w I (.sc (.own id ver)) a):∃ u w',(convert s s a).run P w = .ok u w' ∧ Done B w0 H μ w I f u w':=by
 unfold w82 at h
 split at h
 ·rename_i ti hti
  split at h
  ·rename_i e htd
   split at h
   ·rename_i te hte
    split at h
    ·rename_i hu8
     split at h
     ·rename_i e2 ex vr l hid
      split at h
      ·rename_i hv
       split at h
       ·rename_i l' hl'
        obtain ⟨hn,h2⟩:=a33 h
        cases h2
        obtain ⟨he,hll⟩:=cast?_some hl'
        cases he
        subst hll
        subst hv
        obtain ⟨⟨e3,x3,vr3,l3,g1,g2,g3⟩,_⟩:=ha
        rw [hid] at g1; cases g1
        have hown:=g3 rfl
        have hlen:0 < List.length l':=of_decide_eq_true hn
        cases hm:μ id with
        | none=>rw [hm] at hown; have:=hown.1; subst this; simp at hlen
        | some p =>
         obtain ⟨b,n⟩:=p
         rw [hm] at hown
         obtain ⟨cap,rfl,hc1,hc2,hc3⟩:=hown
         obtain ⟨I1,r1,x1,s1,con1⟩:=HeapRel.shows (H0:=H) [id] hr (Shows.refl H) rfl
         have hblk:=hr.blk id _ hid
         simp only [BlkOk,hm] at hblk
         obtain ⟨c,el,vs,k1,k2,k3,k4⟩:=hblk
         have hund:=a95 (hT s ti hti) htd
         have hue:=und_int (hT e te hte) hu8
         have hrun:(convert s s (.slice (some ⟨b,0,none⟩) (List.length l') cap)).run P w = .ok (.slice (some ⟨b,0,none⟩) (List.length l') cap) (w.freeze ⟨b,c.size,none⟩ 1):=by
          simp [convert,run_underlying hund,run_underlying hue,C32 k1]
         have hrow:RepC w I1 (.slice (.int .u8)) l' [.slice (some ⟨b,0,none⟩) (List.length l') cap]:=by
          refine row_cells hr hid x1.keeps (con1 id (by simp)) ?_
          rw [hm]
          exact ⟨cap,rfl,hc1,hc2,hc3⟩
         have hBb:B ≤ b:=hr.low id _ b n hid rfl hm
         have hkeep:Keeps w (w.freeze ⟨b,c.size,none⟩ 1) I1 I1:=⟨fun g o hi=>⟨hi,freeze_cell w b c.size 1 _⟩⟩
         have hlt:id < (E3 H (shown H [id])).length:=by rw [a55]; exact (List.getElem?_eq_some_iff.1 hid).1
         have hid1:∃ x1:Bool,(E3 H (shown H [id]))[id]? = some (.row (.int .u8) x1 vr l'):=by
          refine ⟨false,?_⟩
          simp only [shown,hid,E3]
          exact a44 (List.getElem?_eq_some_iff.1 hid).1 _
         obtain ⟨xx,hid1⟩:=hid1
         have hext:Ext (E3 H (shown H [id])).length (E3 H (shown H [id])) μ w I1 ((E3 H (shown H [id])).set id (.row (.int .u8) false (vr + 1) (show List Int from []))) (muSet μ id none) (w.freeze ⟨b,c.size,none⟩ 1) I1 :=
          Ext.set hid1 hkeep (fun j hj=>a84 μ _ hj) ⟨false,vr + 1,(show List Int from []),rfl,Nat.le_succ _,fun hq=>absurd hq (by omega)⟩
         have hnew:HeapRel B w0 ((E3 H (shown H [id])).set id (.row (.int .u8) false (vr + 1) (show List Int from []))) (muSet μ id none) (w.freeze ⟨b,c.size,none⟩ 1) I1:=by
          refine r1.upd hlt hext (fun j hj=>a84 μ _ hj) (fun j x g n' hj hx hl hg=>B11 w b c.size 1 g fun e=>hj ?_) ?_ ?_ ?_ ?_
          ·subst e
           exact r1.inj j id x _ g n' n hx hid1 hl rfl hg hm
          ·simp only [BlkOk,Z4]
          ·intro g n' _ hg; rw [Z4] at hg; cases hg
          ·intro g o hi
           refine ⟨by rw [C42]; exact (r1.imm g o hi).1,fun n' hg _=>?_,.inl hi⟩
           rw [Z4] at hg; cases hg
          ·exact ⟨by unfold World.freeze; split <;> rfl,by unfold World.freeze; split <;> rfl,by unfold World.freeze; split <;> rfl,by rw [C42]; exact Nat.le_refl _,fun k hk=>B11 w b c.size 1 k (by omega)⟩
         have hH:E3 H (shown H [id] ++ [(id,.row (.int .u8) false (vr + 1) (show List Int from []))]) = (E3 H (shown H [id])).set id (.row (.int .u8) false (vr + 1) (show List Int from [])):=by simp only [a57,E3]
         refine ⟨_,_,hrun,muSet μ id none,I1,?_,?_,?_⟩
         ·rw [hH]; exact hnew
         ·rw [hH]; exact x1.trans (hext.mono (by rw [a55]; exact Nat.le_refl _))
         ·rw [hH]; exact ⟨rfl,RepC.mono hkeep _ _ _ hrow⟩
       ·cases h
      ·cases h
     ·cases h
    ·cases h
   ·cases h
  ·cases h
 ·cases h
theorem nilCmp_ok {T:TypeId → Option TI} (hT:TypesOk P T) (hr:HeapRel B w0 H μ w I) {op:BinOp} {t:TypeId} {x y:Operand} {f:Eff} {a b:Value} {e:Ty} {l:List e.den}
  (h:(nilCmpA T op t l.length).eval = some f) (ha:RepAV H μ w I (.sc (.lf (.slice e) l)) a) (hb:RepAV H μ w I (.sc .nilS) b) :
  ∃ u,(do eqGuard op t x y a b; binOp op t a b).run P w = .ok u w ∧ Done B w0 H μ w I f u w:=by
 have hb':b = .slice none 0 0:=hb
 subst hb'
 obtain ⟨_,base,cap,hc,_,hx⟩:=ha
 simp only [List.cons.injEq,and_true] at hc
 subst hc
 unfold nilCmpA at h
 split at h
 ·rename_i ti hti
  have key:0 < l.length → ∃ p:Addr,base = some p:=by
   intro hl
   rcases hx with hx | ⟨b,o,vs,rfl,_⟩
   ·subst hx; simp at hl
   ·exact ⟨_,rfl⟩
  split at h
  ·rename_i htd
   obtain ⟨hn,h2⟩:=a33 h
   cases Z6 h2
   obtain ⟨p,rfl⟩:=key (of_decide_eq_true hn)
   refine ⟨.bool false,?_,S3 hr (w73 _)⟩
   rw [Sem.run_bind,B20 (by simp) (by simp)]
   simp only [Result.andThen_ok,binOp]
   simp [run_equal_slice_nil w t _ _ _ _ (a95 (hT t ti hti) htd)]
  ·rename_i htd
   obtain ⟨hn,h2⟩:=a33 h
   cases Z6 h2
   obtain ⟨p,rfl⟩:=key (of_decide_eq_true hn)
   refine ⟨.bool true,?_,S3 hr (w73 _)⟩
   rw [Sem.run_bind,B20 (by simp) (by simp)]
   simp only [Result.andThen_ok,binOp]
   simp [run_equal_slice_nil w t _ _ _ _ (a95 (hT t ti hti) htd)]
  ·cases h
 ·cases h
theorem op_ok (hE:EnvOk P E WI) (hw:WI w I) (hr:HeapRel B w0 H μ w I) {nid:Nat} {o:Oper} (hf:lays o.op = true → H[nid]? = some .free) {ev:Operand → AV} {ρ:Operand → Value}
  (hev:∀ x,RepAV H μ w I (ev x) (ρ x)) (hglob:∀ g,ρ (.global g) = .pointer (some ⟨g,0,none⟩)) {f:Eff} (h:(opA E H nid ev o.op).eval = some f):OpSound P ρ o w fun u w'=>Done B w0 H μ w I f u w':=by
 have one:∀ {s:Sem Value},(∃ u w',s.run P w = .ok u w' ∧ Done B w0 H μ w I f u w') → (execOp ρ o = do pure (.value (← s))) → OpSound P ρ o w fun u w'=>Done B w0 H μ w I f u w':=by
  intro s ⟨u,w',h1,h2⟩ he
  exact .inl ⟨u,w',by rw [he]; simp [h1],h2⟩
 have same:∀ {s:Sem Value},(∃ u,s.run P w = .ok u w ∧ Done B w0 H μ w I f u w) → (execOp ρ o = do pure (.value (← s))) → OpSound P ρ o w fun u w'=>Done B w0 H μ w I f u w':=by
  intro s ⟨u,h1,h2⟩ he
  exact one ⟨u,w,h1,h2⟩ he
 have hT:=hE.types
 obtain ⟨dst,op,ty,pos,after,guard⟩:=o
 cases op with
 | move x=>cases Z6 h; exact .inl ⟨_,w,rfl,S3 hr (hev x)⟩
 | assign x=>cases Z6 h; exact .inl ⟨_,w,rfl,S3 hr (hev x)⟩
 | pick c a b =>
  simp only [opA] at h
  split at h
  ·rename_i t hc
   have hcv:=hev c
   rw [hc] at hcv
   have hb:=w67 hcv
   cases t with
   | true =>
    cases Z6 (show (val (ev a)).eval = some f from h)
    exact .inl ⟨ρ a,w,by simp [execOp,hb,asBool],S3 hr (hev a)⟩
   | false =>
    cases Z6 (show (val (ev b)).eval = some f from h)
    exact .inl ⟨ρ b,w,by simp [execOp,hb,asBool],S3 hr (hev b)⟩
  ·cases h
 | alloc t =>
  simp only [opA] at h
  exact one (allocA_ok hT hE.arrs hr (hf rfl) h) rfl
 | box t x =>
  simp only [opA] at h
  split at h
  ·rename_i a ha
   split at h
   ·rename_i hwh
    cases h
    have:=hev x
    rw [ha] at this
    exact one (box_ok hr (hf rfl) t hwh this) rfl
   ·cases h
  ·cases h
 | build t ps =>
  obtain ⟨u,h1,h2⟩:=build_ok (P:=P) hT hr h (vs:=ps.map fun p=>(p.1,ρ p.2)) (by simpa using B58 hev ps.toList)
  refine .inl ⟨u,w,?_,h2⟩
  unfold execOp
  simp only [Sem.run_bind]
  rw [show (ps.map fun (x:Nat × Operand)=>match x with | (i,x)=>(i,ρ x)) = ps.map fun p=>(p.1,ρ p.2) from rfl,h1]
  rfl
 | buildSlice t n ps =>
  obtain ⟨u,w',h1,h2⟩:=buildSlice_ok (P:=P) hT hr (hf rfl) h (vs:=ps.map fun p=>(p.1,ρ p.2)) (by simpa using B58 hev ps.toList)
  refine .inl ⟨u,w',?_,h2⟩
  unfold execOp
  simp only [Sem.run_bind]
  rw [show (ps.map fun (x:Nat × Operand)=>match x with | (i,x)=>(i,ρ x)) = ps.map fun p=>(p.1,ρ p.2) from rfl,h1]
  rfl
 | load t a =>
  simp only [opA] at h
  split at h
  ·exact same (globLoad_ok hE hw hr h (hglob _)) rfl
  ·exact same (load_ok hT hr h (hev a)) rfl
 | store t a x =>
  obtain ⟨w',h1,h2⟩:=store_ok (P:=P) hT hr h (hev a) (hev x) undef
  exact .inr (.inl ⟨w',by simp [execOp,h1],h2⟩)
 | nilCheck x =>
  simp only [opA] at h
  have hx:=hev x
  have ptr:∀ {p:Addr},ρ x = .pointer (some p) → RepAV H μ w I f.v (.pointer (some p)) → f.ws = [] → OpSound P ρ ⟨dst,.nilCheck x,ty,pos,after,guard⟩ w fun u w'=>Done B w0 H μ w I f u w':=by
   intro p hp hrep hws
   have:f = ⟨f.v,[]⟩:=by rw [← hws]
   rw [this]
   exact .inl ⟨.pointer (some p),w,by simp [execOp,hp],S3 hr hrep⟩
  split at h
  ·rename_i id off hid
   cases Z6 h
   rw [hid] at hx
   obtain ⟨hl,b,n,hm,hv⟩:=hx
   exact ptr hv ⟨hl,b,n,hm,rfl⟩ rfl
  ·rename_i id ver i off hid
   rw [hid] at hx
   split at h
   ·rename_i e xx vr l hrow
    split at h
    ·rename_i hver
     cases Z6 h
     obtain ⟨⟨e2,x2,vr2,l2,g1,g2,g3⟩,_⟩:=hx
     rw [hrow] at g1; cases g1
     obtain ⟨b,n,hm,hv⟩:=g3 hver.symm
     exact ptr hv ⟨⟨e,xx,vr,l,hrow,g2,fun _=>⟨b,n,hm,rfl⟩⟩,_,rfl⟩ rfl
    ·cases h
   ·cases h
  ·rename_i ls hls
   cases Z6 h
   rw [hls] at hx
   obtain ⟨b,o,vs,hv,h1,h2⟩:=hx
   exact ptr hv ⟨b,o,vs,rfl,h1,h2⟩ rfl
  ·cases h
 | binOp op t x y yt =>
  simp only [opA] at h
  split at h
  ·rename_i hx hy
   have h1:=hev x
   have h2:=hev y
   rw [hx] at h1
   rw [hy] at h2
   exact same (nilEq_ok hT hr h h1 h2) rfl
  ·rename_i e l hx hy
   have h1:=hev x
   have h2:=hev y
   rw [hx] at h1
   rw [hy] at h2
   exact same (nilCmp_ok hT hr h h1 h2) rfl
  ·exact same (binOp_ok hT hr h (hev x) (hev y) x y) rfl
 | unOp op t x=>exact same (unOp_ok hr h (hev x)) rfl
 | convert s d x =>
  simp only [opA] at h
  split at h
  ·rename_i id ver hx
   have h1:=hev x
   rw [hx] at h1
   split at h
   ·rename_i hsd
    subst hsd
    exact one (bytesConst_ok hT hr h h1) rfl
   ·exact one (conv_ok hT hr h h1) rfl
  ·exact one (conv_ok hT hr h (hev x)) rfl
 | makeFunc fn a b=>exact same (makeFunc_ok hr h (a:=a.map ρ) (b:=b.map ρ) (by simpa using B22 hev a.toList) (by simpa using B22 hev b.toList)) rfl
 | makeSlice t l c=>exact one (makeSlice_ok hT hr (hf rfl) h (hev l) (hev c)) rfl
 | slice t x lo hi mx =>
  have opt:∀ (y:Option Operand),(∀ z,y.map ev = some z → ∃ b,y.map ρ = some b ∧ RepAV H μ w I z b) ∧ (y.map ev = none → y.map ρ = none):=by
   intro y
   match y with
   | none=>exact ⟨fun z hz=>(nomatch hz),fun _=>rfl⟩
   | some y=>exact ⟨fun z hz=>⟨ρ y,rfl,by cases hz; exact hev y⟩,fun hz=>(nomatch hz)⟩
  exact same (slice_ok hT hr h (hev x) (opt lo).1 (opt lo).2 (opt hi).1 (opt hi).2 (opt mx).1 (opt mx).2) rfl
 | fieldAddr s x i=>exact same (fieldAddr_ok hT hr h (hev x)) rfl
 | field t x i=>exact same (field_ok hT hr h (hev x)) rfl
 | indexAddr t x i =>
  simp only [opA] at h
  split at h
  ·exact same (globIndex_ok hE hw hr h (hev i) (hglob _)) rfl
  ·exact same (indexAddr_ok hT hr h (hev x) (hev i)) rfl
 | index t x i=>exact same (index_ok hT hr h (hev x) (hev i)) rfl
 | extract x i=>exact same (extract_ok hr h (hev x)) rfl
 | call c =>
  obtain ⟨callee,args,ats⟩:=c
  simp only [opA,callA] at h
  have hargs:Each (RepAV H μ w I) (args.toList.map ev) (args.toList.map ρ):=B22 hev args.toList
  have bi:∀ {s:Sem Value} {b:Builtin},callee = .builtin b → (∀ cs,builtin b ats ty cs (args.map ρ) = do pure (.value (← s))) →
    (∃ u w',s.run P w = .ok u w' ∧ Done B w0 H μ w I f u w') → OpSound P ρ ⟨dst,.call ⟨callee,args,ats⟩,ty,pos,after,guard⟩ w fun u w'=>Done B w0 H μ w I f u w':=by
   intro s b hc hb ⟨u,w',h1,h2⟩
   subst hc
   refine .inl ⟨u,w',?_,h2⟩
   simp only [execOp,resolve,Sem.run_bind,Sem.run_pure,Result.andThen_ok,invoke]
   rw [hb]
   simp [h1]
  split at h
  ·
   split at h
   ·rename_i t x hats harg
    split at h
    ·rename_i ti hti
     rw [harg] at hargs
     have hsz:∃ v,args.map ρ = #[v] ∧ RepAV H μ w I x v:=by
      cases hq:args.toList.map ρ with
      | nil=>rw [hq] at hargs; exact hargs.elim
      | cons v r =>
       rw [hq] at hargs
       cases r with
       | nil=>exact ⟨v,by apply Array.ext'; simpa using hq,hargs.1⟩
       | cons _ _=>exact hargs.2.elim
     obtain ⟨v,hv,hxv⟩:=hsz
     obtain ⟨u,k1,k2⟩:=len_ok (P:=P) hT hr hti h hxv ats hats ty
     exact bi rfl (fun _=>rfl) ⟨u,w,by rw [hv]; exact k1,k2⟩
    ·cases h
   ·cases h
  ·
   split at h
   ·rename_i t t' x y h0 h1 harg
    rw [harg] at hargs
    have hsz:∃ v v',args.map ρ = #[v,v'] ∧ RepAV H μ w I x v ∧ RepAV H μ w I y v':=by
     cases hq:args.toList.map ρ with
     | nil=>rw [hq] at hargs; exact hargs.elim
     | cons v r =>
      rw [hq] at hargs
      cases r with
      | nil=>exact hargs.2.elim
      | cons v' r =>
       cases r with
       | nil=>exact ⟨v,v',by apply Array.ext'; simpa using hq,hargs.1,hargs.2.1⟩
       | cons _ _=>exact hargs.2.2.elim
    obtain ⟨v,v',hv,hxv,hyv⟩:=hsz
    obtain ⟨u,w',k1,k2⟩:=append_ok (P:=P) hT hr (hf rfl) h0 h1 h hxv hyv ty
    refine bi rfl (fun _=>rfl) ⟨u,w',?_,k2⟩
    rw [hv]
    exact k1
   ·cases h
  ·exact bi rfl (fun _=>rfl) (by
    obtain ⟨u,k1,k2⟩:=minmax_ok (P:=P) hr h (vs:=args.map ρ) (by simpa using hargs) ats ty
    exact ⟨u,w,by simpa using k1,k2⟩)
  ·exact bi rfl (fun _=>rfl) (by
    obtain ⟨u,k1,k2⟩:=minmax_ok (P:=P) hr h (vs:=args.map ρ) (by simpa using hargs) ats ty
    exact ⟨u,w,by simpa using k1,k2⟩)
  ·rename_i g
   have told:(toldA E H nid (args.toList.map ev) (target (ev g))).eval = some f → OpSound P ρ ⟨dst,.call ⟨.value g,args,ats⟩,ty,pos,after,guard⟩ w fun u w'=>Done B w0 H μ w I f u w':=by
    intro h
    cases htar:target (ev g) with
    | none=>rw [htar] at h; cases h
    | some p =>
     obtain ⟨K,pre,post⟩:=p
     rw [htar] at h
     simp only [toldA] at h
     obtain ⟨va,vb,hρ,hpre,hpost⟩:=C83 htar (hev g)
     have hall:=(hpre.append hargs).append hpost
     have he:(va.toList ++ args.toList.map ρ ++ vb.toList).toArray = va ++ args.map ρ ++ vb:=by
      apply Array.ext'; simp
     split at h
     ·rename_i p hp
      refine .inr (.inr ⟨K,va ++ args.map ρ ++ vb,?_,?_⟩)
      ·show (do let d ← resolve ρ { callee:=.value g,args,argTypes:=ats } ty; invoke d.target d.args).run P w = _
       rw [w95 hρ]
       exact (hE.enters K (.inr (.inr (by rw [hp]; rfl)))).run _ w
      ·have:=hE.prims K p hp hw hr (hf rfl) h hall
       rw [he] at this
       exact this
     ·split at h
      ·rename_i sg hsg
       refine .inr (.inr ⟨K,va ++ args.map ρ ++ vb,?_,?_⟩)
       ·show (do let d ← resolve ρ { callee:=.value g,args,argTypes:=ats } ty; invoke d.target d.args).run P w = _
        rw [w95 hρ]
        exact (hE.enters K (.inl (by rw [hsg]; rfl))).run _ w
       ·have:=sigA_ok (P:=P) hE hw hr (hf rfl) hsg h hall
        rw [he] at this
        exact this
      ·cases h
   split at h
   ·exact told h
   ·split at h
    ·rename_i x hx
     obtain ⟨K,rfl,h2⟩:=fnsA_eval _ h
     refine told ?_
     rw [hx]
     exact h2
    ·exact told h
  ·cases h
 | _=>cases h
end
end Go.Am
end
end
