/- An evaluator of the translated code and that it is right: each of its answers is an answer of the model. -/
import GoSem.Step
import Derived.Orders
import Derived.Calls
import Derived.Laws.Sem
import Derived.Laws.CopyRow
import Derived.Laws.Rows
import Derived.Laws.Append
import Derived.Laws.Entries
import Derived.Tactics
import Derived.LaidEql
set_option linter.unusedVariables false
set_option linter.unusedSimpArgs false
set_option linter.unusedSectionVars false
namespace Go.V
open Go
inductive AV where
 |junk
 |bool (b:Bool)
 |int (k:IntKind) (n:Int)
 |str (s:ByteArray)
 |nilp
 |ptr (b r c:Nat)
 |eptr (row:List AV)
 |nils
 |sl (b r n:Nat)
 |emp
 |lit (sz:Nat) (rows:List (List AV))
 |nilm
 |mp (b:Nat)
 |nilf
 |fn (f:FuncId) (caps:List AV)
 |yl (b:Nat)
 |nili
 |agg (cells:List AV)
 |tup (vs:List AV)
 deriving Inhabited
inductive AB where
 |dead
 |cells (rows:List (List AV)) (sz:Nat) (ty:Option (TypeId×Nat))
 |map (es:List (AV×AV))
 |loop (n:Nat) (keep:List Nat) (env:List (Nat×AV)) (params:List Nat) (assign body:Code) (st:LoopState) (pending:Option Code)
 deriving Inhabited
structure AH where
 bl:List AB
 wm:Nat
inductive SV where
 |v (a:AV)
 |loc (i c:Nat)
structure S where
 e:List (Nat×SV)
 F:List (List AV)
 H:AH
structure Par where
 P:Program
 fns:FuncId->Option Func
 loc:FuncId->List Nat
 keep:FuncId->List Nat
 frz:FuncId->Bool
 ext:FuncId->Option (List AV->AH->Option (AV×AH))
 glob:Nat->Option (List AV)
def get:List (Nat×SV)->Nat->SV
 |[],_=> .v .junk
 |(j,x)::e,i=>if i=j then x else get e i
def AV.isOne:AV->Bool
 | .junk| .agg _| .tup _=>false
 |_=>true
def AV.cells?:AV->Option (List AV)
 | .agg cs=>some cs
 | .junk| .tup _=>none
 |x=>some [x]
def constAV:Value->Option AV
 | .bool b=>some (.bool b)
 | .int k n=>some (.int k n)
 | .string s=>some (.str s)
 | .pointer none=>some .nilp
 | .slice none 0 0=>some .nils
 | .map none=>some .nilm
 | .nilFunc=>some .nilf
 | .nilIface=>some .nili
 |_=>none
def constCells:List Value->Option (List AV)
 |[]=>some []
 |v::vs=>(constAV v).bind fun x=>(constCells vs).bind fun xs=>some (x::xs)
section
variable (A:Par)
def size (t:TypeId):Option Nat:=(A.P.info? t).map (·.size)
def bytes (t:TypeId):Option Nat:=(A.P.info? t).map (·.bytes)
def isAgg (t:TypeId):Option Bool:=
 match A.P.underlying t with
 |some (.struct _)|some (.array _ _)=>some true
 |some _=>some false
 |none=>none
def zero (t:TypeId):Option (List AV):=
 match (A.P.info? t).map (·.zero) with
 |some (some v)=>constCells v.cells.toList
 |_=>none
def zeroV (t:TypeId):Option AV:=
 match (A.P.info? t).map (·.zero) with
 |some (some (Value.agg cs))=>(constCells cs.toList).map AV.agg
 |some (some v)=>constAV v
 |_=>none
def operand (e:List (Nat×SV)):Operand->Option SV
 | .tmp t=>some (get e t)
 | .const v=>(constAV v).map .v
 | .global g=>(A.glob g).map fun row=> .v (.eptr row)
 | .func f=>some (.v (.fn f []))
def val (e:List (Nat×SV)) (x:Operand):Option AV:=
 match operand A e x with
 |some (.v a)=>some a
 |_=>none
def vals (e:List (Nat×SV)):List Operand->Option (List AV)
 |[]=>some []
 |x::xs=>(val A e x).bind fun a=>(vals e xs).bind fun l=>some (a::l)
def splice (row:List AV) (c:Nat) (new:List AV):Option (List AV):=
 if c+new.length<=row.length then some (row.take c++(new++row.drop (c+new.length))) else none
def part (t:TypeId) (row:List AV) (c:Nat):Option AV:=
 (isAgg A t).bind fun
  |true=>(size A t).bind fun n=>if c+n<=row.length then some (.agg ((row.drop c).take n)) else none
  |false=>row[c]?
def rowAt (H:AH) (b r:Nat):Option (List AV):=
 match H.bl[b]? with
 |some (.cells rows _ _)=>rows[r]?
 |_=>none
def setBl (H:AH) (b:Nat) (x:AB):AH:={ H with bl:=H.bl.set b x }
def push (H:AH) (x:AB):AH:={ H with bl:=H.bl++[x] }
def rowsOf (H:AH):AV->Option (List (List AV))
 | .nils=>some []
 | .emp=>some []
 | .lit _ rows=>some rows
 | .sl b r n=>
  match H.bl[b]? with
  |some (.cells rows _ _)=>if r+n<=rows.length then some ((rows.drop r).take n) else none
  |_=>none
 |_=>none
def szOf (H:AH) (b:Nat):Option Nat:=
 match H.bl[b]? with
 |some (.cells _ sz _)=>some sz
 |_=>none
def tyOf (H:AH) (b:Nat):Option (TypeId×Nat):=
 match H.bl[b]? with
 |some (.cells _ _ ty)=>ty
 |_=>none
def tyOn (ty:Option (TypeId×Nat)) (e:TypeId) (r:Nat):Option (TypeId×Nat):=
 match ty with
 |some (t,k)=>if t=e/\r=0/\1<=k then some (e,1) else none
 |none=>none
def lenOf:AV->Option Nat
 | .nils=>some 0
 | .emp=>some 0
 | .lit _ rows=>some rows.length
 | .sl _ _ n=>some n
 | .str s=>some s.size
 |_=>none
def load (s:S) (t:TypeId):SV->Option AV
 | .loc i c=>s.F[i]?.bind fun row=>part A t row c
 | .v (.ptr b r c)=>(rowAt s.H b r).bind fun row=>part A t row c
 | .v (.eptr row)=>part A t row 0
 |_=>none
def store (s:S) (t:TypeId) (p:SV) (x:AV):Option S:=
 x.cells?.bind fun cs=>(size A t).bind fun n=>
  if cs.length=n then
   match p with
   | .loc i c=>s.F[i]?.bind fun row=>(splice row c cs).bind fun row'=>some { s with F:=s.F.set i row' }
   | .v (.ptr b r c)=>
    match s.H.bl[b]? with
    |some (.cells rows sz ty)=>
     if s.H.wm<=b then rows[r]?.bind fun row=>(splice row c cs).bind fun row'=>some { s with H:=setBl s.H b (.cells (rows.set r row') sz ty) } else none
    |_=>none
   |_=>none
  else none
def addCell (n:Nat):SV->Option SV
 | .loc i c=>some (.loc i (c+n))
 | .v (.ptr b r c)=>some (.v (.ptr b r (c+n)))
 | .v (.eptr row)=>some (.v (.eptr (row.drop n)))
 |_=>none
def field? (t:TypeId) (f:Nat):Option Field:=
 match A.P.underlying t with
 |some (.struct fs)=>fs[f]?
 |_=>none
def inRange (i:Int) (n:Nat):Bool:=decide (0<=i)&&decide (i<(n:Int))
def indexAddr (H:AH) (t:TypeId) (x:SV) (i:Int):Option SV:=
 match A.P.underlying t with
 |some (.array n e)=>if inRange i n then (size A e).bind fun sz=>addCell (i.toNat * sz) x else none
 |some (.slice e)=>
  match x with
  | .v (.sl b r n)=>if inRange i n then ((szOf H b).bind fun sz=>if size A e=some sz then some (.v (.ptr b (r+i.toNat) 0)) else none) else none
  | .v (.lit sz rows)=>if inRange i rows.length then (if size A e=some sz then rows[i.toNat]?.map fun row=> .v (.eptr row) else none) else none
  |_=>none
 |_=>none
def index (t:TypeId) (x:AV) (i:Int):Option AV:=
 match A.P.underlying t,x with
 |some (.array n e),.agg cs=>if inRange i n then (size A e).bind fun sz=>part A e cs (i.toNat * sz) else none
 |some .string,.str s=>if inRange i s.size then some (.int .u8 (s[i.toNat]!.toNat:Int)) else none
 |_,_=>none
def fillRow (place:Nat->Option (Nat×Nat)) (row:List AV):List (Nat×AV)->Option (List AV)
 |[]=>some row
 |(i,x)::rest=>
  (place i).bind fun (off,n)=>x.cells?.bind fun cs=>
   if cs.length=n then (splice row off cs).bind fun row'=>fillRow place row' rest else none
def parts (e:List (Nat×SV)):List (Nat×Operand)->Option (List (Nat×AV))
 |[]=>some []
 |(i,x)::xs=>(val A e x).bind fun a=>(parts e xs).bind fun l=>some ((i,a)::l)
def build (t:TypeId) (ps:List (Nat×AV)):Option AV:=
 (zero A t).bind fun z=>
  match A.P.underlying t with
  |some (.struct fs)=>if fs.toList.all fun f=>(size A f.type).isSome then (fillRow (fun i=>fs[i]?.bind fun f=>(size A f.type).map fun n=>(f.offset,n)) z ps).map .agg else none
  |some (.array _ e)=>(size A e).bind fun n=>(fillRow (fun i=>some (i * n,n)) z ps).map .agg
  |_=>none
def elem? (t:TypeId):Option TypeId:=
 match A.P.underlying t with
 |some (.slice e)=>some e
 |_=>none
def fillRows (rows:List (List AV)):List (Nat×AV)->Option (List (List AV))
 |[]=>some rows
 |(i,x)::rest=>x.cells?.bind fun cs=>rows[i]?.bind fun row=>if cs.length=row.length then fillRows (rows.set i cs) rest else none
def buildSlice (H:AH) (t:TypeId) (len:Nat) (ps:List (Nat×AV)):Option (AV×AH):=
 (elem? A t).bind fun e=>(zero A e).bind fun z=>
  if len * z.length<=16777216/\0<z.length/\size A e=some z.length then
   if len=0/\ps.length=0 then some (.emp,H) else (fillRows (List.replicate len z) ps).bind fun rows=>some (.sl H.bl.length 0 len,push H (.cells rows z.length (some (e,1))))
  else none
def makeSlice (H:AH) (t:TypeId) (len cap:AV):Option (AV×AH):=
 match len,cap with
 | .int _ l,.int _ c=>
  (elem? A t).bind fun e=>(zero A e).bind fun z=>(bytes A e).bind fun n=>
   if 0<=l/\l<=c/\n * c<=70368744177664/\c<9223372036854775808/\0<z.length/\size A e=some z.length then
    some (.sl H.bl.length 0 l.toNat,push H (.cells (List.replicate l.toNat z) z.length (some (e,1))))
   else none
 |_,_=>none
def byteRows (s:ByteArray):List (List AV):=s.data.toList.map fun b=>[.int .u8 (b.toNat:Int)]
def append (H:AH) (argTypes:Array TypeId) (x y:AV):Option (AV×AH):=
 argTypes[0]?.bind fun t=>(elem? A t).bind fun e=>(zero A e).bind fun z=>(bytes A e).bind fun n=>
  (match argTypes[1]? with
   |some u=>(match A.P.underlying u with|some (.int _)=>none|some _=>some ()|none=>none)
   |none=>some ()).bind fun _=>
  (rowsOf H x).bind fun xs=>(match y with| .str s=>some (byteRows s)|y=>rowsOf H y).bind fun ys=>
   if (xs.length+ys.length) * n<=70368744177664/\xs.length+ys.length<9223372036854775808/\0<z.length/\size A e=some z.length/\ys.all (fun r=>r.length==z.length) then
    if ys.length=0 then some (x,H)
    else
     match x with
     | .nils| .emp=>some (.sl H.bl.length 0 ys.length,push H (.cells ys z.length (some (e,1))))
     | .sl b r _=>
      if H.wm<=b/\szOf H b=some z.length then some (.sl H.bl.length 0 (xs.length+ys.length),push (setBl H b .dead) (.cells (xs++ys) z.length (tyOn (tyOf H b) e r))) else none
     |_=>none
   else none
def bnd (lo hi:Option Int) (n:Nat):Option (Nat×Nat):=
 if 0<=lo.getD 0/\lo.getD 0<=hi.getD n/\hi.getD n<=n then some ((lo.getD 0).toNat,(hi.getD n).toNat) else none
def slice (H:AH) (t:TypeId) (x:AV) (lo hi:Option Int):Option AV:=
 match A.P.underlying t,x with
 |some .string,.str s=>(bnd lo hi s.size).map fun (l,h)=> .str (s.extract l h)
 |some (.slice e),.nils=>(size A e).bind fun _=>(bnd lo hi 0).map fun _=> .nils
 |some (.slice e),.emp=>(size A e).bind fun _=>(bnd lo hi 0).map fun _=> .emp
 |some (.slice e),.lit sz rows=>(bnd lo hi rows.length).bind fun (l,h)=>if size A e=some sz then some (.lit sz ((rows.take h).drop l)) else none
 |some (.slice e),.sl b r n=>(bnd lo hi n).bind fun (l,h)=>(szOf H b).bind fun sz=>if size A e=some sz then some (.sl b (r+l) (h-l)) else none
 |_,_=>none
def slice0 (t:TypeId) (x:AV):Option AV:=
 match A.P.underlying t with
 |some (.slice e)=>(size A e).bind fun _=>match x with
  | .nils=>some .nils
  | .emp| .lit _ _| .sl _ _ _=>some .emp
  |_=>none
 |_=>none
def is0 (x:AV):Bool:=match x with| .int _ n=>decide (n=0)|_=>false
def bits (op:BinOp) (k:IntKind) (x y:Int):Option Int:=
 let a:=BitVec.ofInt k.bits x
 let b:=BitVec.ofInt k.bits y
 match op with
 | .and=>some (k.wrap (a &&& b).toNat)
 | .or=>some (k.wrap (a ||| b).toNat)
 | .xor=>some (k.wrap (a ^^^ b).toNat)
 | .andNot=>some (k.wrap (a &&& ~~~b).toNat)
 |_=>none
def intOp (op:BinOp) (k:IntKind) (x y:Int):Option AV:=
 match op with
 | .add=>some (.int k (k.wrap (x+y)))
 | .sub=>some (.int k (k.wrap (x-y)))
 | .mul=>some (.int k (k.wrap (x * y)))
 | .quo=>if y=0 then none else some (.int k (k.wrap (x.tdiv y)))
 | .rem=>if y=0 then none else some (.int k (x.tmod y))
 | .and| .or| .xor| .andNot=>(bits op k x y).map (.int k)
 | .eql=>some (.bool (decide (x=y)))
 | .neq=>some (.bool (!decide (x=y)))
 | .lss=>some (.bool (decide (x<y)))
 | .leq=>some (.bool (decide (x<=y)))
 | .gtr=>some (.bool (decide (y<x)))
 | .geq=>some (.bool (decide (y<=x)))
 |_=>none
def eqFields (eq:TypeId->AV->AV->Option Bool) (xs ys:List AV):List Field->Option Bool
 |[]=>some true
 |fd::fs=>
  if fd.name= "_" then eqFields eq xs ys fs
  else (part A fd.type xs fd.offset).bind fun x=>(part A fd.type ys fd.offset).bind fun y=>(eq fd.type x y).bind fun b=>(eqFields eq xs ys fs).map fun c=>b&&c
def eqElems (eq:AV->AV->Option Bool) (e:TypeId) (sz:Nat) (xs ys:List AV):Nat->Nat->Option Bool
 |0,_=>some true
 |n+1,i=>(part A e xs (i * sz)).bind fun x=>(part A e ys (i * sz)).bind fun y=>(eq x y).bind fun b=>(eqElems eq e sz xs ys n (i+1)).map fun c=>b&&c
def eqT:Nat->TypeId->AV->AV->Option Bool
 |0,_,_,_=>none
 |d+1,t,x,y=>
  match A.P.underlying t,x,y with
  |some .bool,.bool a,.bool b=>some (a==b)
  |some (.int _),.int k a,.int k' b=>if k=k' then some (decide (a=b)) else none
  |some .string,.str a,.str b=>some (a.toList==b.toList)
  |some (.struct fs),.agg xs,.agg ys=>if A.P.stoodInHeld t then none else eqFields A (eqT d) xs ys fs.toList
  |some (.array n e),.agg xs,.agg ys=>(size A e).bind fun sz=>eqElems A (eqT d e) e sz xs ys n 0
  |_,_,_=>none
def eqOp (t:TypeId) (x y:AV):Option Bool:=
 match A.P.underlying t,x,y with
 |some .bool,.bool a,.bool b=>some (a==b)
 |some (.struct _),.agg xs,.agg ys=>if A.P.eqGuardType A.P.depth t then none else eqT A 1000 t (.agg xs) (.agg ys)
 |some (.array _ _),.agg xs,.agg ys=>if A.P.eqGuardType A.P.depth t then none else eqT A 1000 t (.agg xs) (.agg ys)
 |some (.slice _),.nils,.nils=>some true
 |some (.slice _),.nils,.lit _ _|some (.slice _),.lit _ _,.nils|some (.slice _),.nils,.sl .. |some (.slice _),.sl ..,.nils|some (.slice _),.nils,.emp|some (.slice _),.emp,.nils=>some false
 |some (.pointer _),.nilp,.nilp=>some true
 |some (.pointer _),.nilp,.ptr .. |some (.pointer _),.ptr ..,.nilp|some (.pointer _),.nilp,.eptr _|some (.pointer _),.eptr _,.nilp=>some false
 |some (.map _ _),.nilm,.nilm=>some true
 |some (.map _ _),.nilm,.mp _|some (.map _ _),.mp _,.nilm=>some false
 |some (.func _ _ _),.nilf,.nilf=>some true
 |some (.func _ _ _),.nilf,.fn .. |some (.func _ _ _),.fn ..,.nilf=>some false
 |_,_,_=>none
def strOp (op:BinOp) (x y:ByteArray):Option AV:=
 match op with
 | .add=>if x.size+y.size<=9223372036854775807 then some (.str (x++y)) else none
 | .eql=>some (.bool (x.toList==y.toList))
 | .neq=>some (.bool (!(x.toList==y.toList)))
 | .lss=>some (.bool (Op.bytesLess x.toList y.toList))
 | .leq=>some (.bool (Op.bytesLess x.toList y.toList||x.toList==y.toList))
 | .gtr=>some (.bool !(Op.bytesLess x.toList y.toList||x.toList==y.toList))
 | .geq=>some (.bool !(Op.bytesLess x.toList y.toList))
 |_=>none
def binop (op:BinOp) (t:TypeId) (x y:AV):Option AV:=
 match op,x,y with
 | .shl,.int k a,.int _ b=>if 0<=b then some (.int k (k.wrap (a * 2^min b.toNat k.bits))) else none
 | .shr,.int k a,.int _ b=>if 0<=b then some (.int k (a.fdiv (2^min b.toNat k.bits))) else none
 |op,.int k a,.int k' b=>if k=k' then intOp op k a b else none
 |op,.str a,.str b=>strOp op a b
 | .eql,x,y=>(eqOp A t x y).map .bool
 | .neq,x,y=>(eqOp A t x y).map fun b=> .bool !b
 |_,_,_=>none
def unop (op:UnOp) (x:AV):Option AV:=
 match op,x with
 | .neg,.int k n=>some (.int k (k.wrap (0-n)))
 | .xor,.int k n=>(bits .xor k (if k.signed then -1 else k.max) n).map (.int k)
 | .not,.bool b=>some (.bool !b)
 |_,_=>none
def rowsBytes:List (List AV)->Option (List UInt8)
 |[]=>some []
 |[.int .u8 n]::rest=>(rowsBytes rest).bind fun l=>some (UInt8.ofNat n.toNat::l)
 |_=>none
def convert (H:AH) (src dst:TypeId) (x:AV):Option (AV×AH):=
 match A.P.underlying src,A.P.underlying dst,x with
 |some _,some (.int k),.int _ n=>some (.int k (k.wrap n),H)
 |some _,some .string,.str s=>some (.str s,H)
 |some .string,some (.slice e),.str s=>
  match A.P.underlying e with
  |some (.int .u8)=>if s.size<=70368744177664 then some (.sl H.bl.length 0 s.size,push H (.cells (byteRows s) 1 (some (e,1)))) else none
  |_=>none
 |some (.slice e),some .string,x=>
  match A.P.underlying e with
  |some (.int .u8)=>(rowsOf H x).bind fun rows=>(rowsBytes rows).map fun l=>(.str ⟨l.toArray⟩,H)
  |_=>none
 |_,_,_=>none
def keyEq:AV->AV->Option Bool
 | .int k x,.int k' y=>if k=k' then some (decide (x=y)) else none
 | .str x,.str y=>some (x==y)
 |_,_=>none
def mapFind (k:AV):List (AV×AV)->Option (Option AV)
 |[]=>some none
 |(k',v)::es=>(keyEq k k').bind fun
  |true=>some (some v)
  |false=>mapFind k es
def mapSet (k v:AV):List (AV×AV)->Option (List (AV×AV))
 |[]=>some [(k,v)]
 |(k',v')::es=>(keyEq k k').bind fun
  |true=>some ((k,v)::es)
  |false=>(mapSet k v es).map ((k',v'):: ·)
def mapDel (k:AV):List (AV×AV)->Option (List (AV×AV))
 |[]=>some []
 |(k',v')::es=>(keyEq k k').bind fun
  |true=>some es
  |false=>(mapDel k es).map ((k',v'):: ·)
def mapOf (H:AH):AV->Option (List (AV×AV))
 | .nilm=>some []
 | .mp b=>match H.bl[b]? with|some (.map es)=>some es|_=>none
 |_=>none
def AV.isKey:AV->Bool
 | .int _ _| .str _=>true
 |_=>false
def keyOK (t:TypeId) (k:AV):Bool:=
 match A.P.underlying t,k with
 |some (.int _),.int _ _=>true
 |some .string,.str _=>true
 |_,_=>false
def lookup (H:AH) (t:TypeId) (m k:AV) (ok:Bool):Option AV:=
 match A.P.underlying t with
 |some (.map kt et)=>
  if keyOK A kt k then
   (mapOf H m).bind fun es=>(mapFind k es).bind fun r=>
    (match r with|some v=>some (v,true)|none=>(zeroV A et).map fun z=>(z,false)).bind fun (v,b)=>
     some (if ok then .tup [v,.bool b] else v)
  else none
 |_=>none
def mapUpdate (H:AH) (t:TypeId) (m k x:AV):Option AH:=
 match A.P.underlying t,m with
 |some (.map kt _),.mp b=>
  if keyOK A kt k&&decide (H.wm<=b) then
   match H.bl[b]? with
   |some (.map es)=>(mapSet k x es).map fun es'=>setBl H b (.map es')
   |_=>none
  else none
 |_,_=>none
def mapDelete (H:AH) (t:TypeId) (m k:AV):Option AH:=
 match A.P.underlying t,m with
 |some (.map kt _),.nilm=>if keyOK A kt k then some H else none
 |some (.map kt _),.mp b=>
  if keyOK A kt k&&decide (H.wm<=b) then
   match H.bl[b]? with
   |some (.map es)=>(mapDel k es).map fun es'=>setBl H b (.map es')
   |_=>none
  else none
 |_,_=>none
def toInt:AV->Option Int
 | .int _ n=>some n
 |_=>none
def optInt (e:List (Nat×SV)):Option Operand->Option (Option Int)
 |none=>some none
 |some x=>(val A e x).bind fun a=>(toInt a).map some
abbrev Callee:=AV->List AV->AH->Option (AV×AH)
def maxAV:AV->AV->Option AV
 | .int k x,.int _ y=>some (.int k (if y>x then y else x))
 |_,_=>none
def minAV:AV->AV->Option AV
 | .int k x,.int _ y=>some (.int k (if y<x then y else x))
 |_,_=>none
def fold2 (f:AV->AV->Option AV) (x:AV):List AV->Option AV
 |[]=>some x
 |y::ys=>(f x y).bind fun z=>fold2 f z ys
def builtin (H:AH) (b:Builtin) (argTypes:Array TypeId) (args:List AV):Option (AV×AH):=
 match b,args with
 | .append,[x,y]=>append A H argTypes x y
 | .len,[x]=>
  argTypes[0]?.bind fun t=>
   match A.P.underlying t,x with
   |some .string,.str s=>some (.int .i64 s.size,H)
   |some (.slice _),.nils|some (.slice _),.emp=>some (.int .i64 0,H)
   |some (.slice _),.lit _ rows=>some (.int .i64 rows.length,H)
   |some (.slice _),.sl _ _ n=>some (.int .i64 n,H)
   |some (.map _ _),m=>(mapOf H m).map fun es=>(.int .i64 es.length,H)
   |some (.array n _),_=>some (.int .i64 n,H)
   |_,_=>none
 | .max,x::xs=>(fold2 maxAV x xs).map fun v=>(v,H)
 | .min,x::xs=>(fold2 minAV x xs).map fun v=>(v,H)
 | .delete,[m,k]=>argTypes[0]?.bind fun t=>(mapDelete A H t m k).map fun H'=>(.tup [],H')
 | .copy,[x,y]=>
  argTypes[0]?.bind fun t=>(elem? A t).bind fun e=>(size A e).bind fun z=>
   (rowsOf H y).bind fun ys=>
    match x with
    | .nils| .emp=>some (.int .i64 0,H)
    | .sl b r n=>
     match H.bl[b]? with
     |some (.cells rows sz ty)=>
      if H.wm<=b/\r+n<=rows.length/\sz=z/\ys.all (fun q=>q.length==z) then
       let new:=ys.take (min ys.length n)
       some (.int .i64 new.length,setBl H b (.cells (rows.take r++(new++rows.drop (r+new.length))) sz ty))
      else none
     |_=>none
    |_=>none
 |_,_=>none
def box (s:S) (t:TypeId) (isLoc:Bool) (cs:List AV):SV×S:=
 if isLoc then (.loc s.F.length 0,{ s with F:=s.F++[cs] }) else (.v (.ptr s.H.bl.length 0 0),{ s with H:=push s.H (.cells [cs] cs.length (some (t,2))) })
def boxed (s:S) (t:TypeId) (isLoc:Bool) (cs:List AV):Option (SV×S):=if isLoc||decide (0<cs.length) then some (box s t isLoc cs) else none
def ret1 (s:S) (x:Option AV):Option (SV×S):=x.map fun a=>(.v a,s)
def retH (s:S) (x:Option (AV×AH)):Option (SV×S):=x.map fun (a,H)=>(.v a,{ s with H:=H })
def frList (fz:AH->AV->Option (AV×AH)):AH->List AV->Option (List AV×AH)
 |H,[]=>some ([],H)
 |H,x::xs=>(fz H x).bind fun (x',H')=>(frList fz H' xs).bind fun (xs',H'')=>some (x'::xs',H'')
def frRows (fz:AH->AV->Option (AV×AH)):AH->List (List AV)->Option (List (List AV)×AH)
 |H,[]=>some ([],H)
 |H,x::xs=>(frList fz H x).bind fun (x',H')=>(frRows fz H' xs).bind fun (xs',H'')=>some (x'::xs',H'')
def freeze:Nat->AH->AV->Option (AV×AH)
 |0,_,_=>none
 |d+1,H,.sl b r n=>
  (rowsOf H (.sl b r n)).bind fun rows=>(szOf H b).bind fun sz=>
   if H.wm<=b then (frRows (freeze d) (setBl H b .dead) rows).bind fun (rows',H')=>some (.lit sz rows',H') else none
 |d+1,H,.agg cs=>(frList (freeze d) H cs).bind fun (cs',H')=>some (.agg cs',H')
 |d+1,H,.tup cs=>(frList (freeze d) H cs).bind fun (cs',H')=>some (.tup cs',H')
 |_+1,H,x=>some (x,H)
def litOp (locs:List Nat) (o:Oper):Bool:=(o.dst.map fun d=>locs.contains (2000000+d)).getD false
def op (call:Callee) (locs:List Nat) (s:S) (o:Oper):Option (SV×S):=
 match o.op with
 | .move x| .assign x=>(operand A s.e x).map fun v=>(v,s)
 | .pick c a b=>(val A s.e c).bind fun
  | .bool true=>(operand A s.e a).map fun v=>(v,s)
  | .bool false=>(operand A s.e b).map fun v=>(v,s)
  |_=>none
 | .alloc t=>(zero A t).bind fun z=>boxed s t ((o.dst.map (locs.contains ·)).getD false) z
 | .box t x=>(val A s.e x).bind fun a=>a.cells?.bind fun cs=>boxed s t ((o.dst.map (locs.contains ·)).getD false) cs
 | .build t ps=>(parts A s.e ps.toList).bind fun l=>ret1 s (build A t l)
 | .buildSlice t n ps=>(parts A s.e ps.toList).bind fun l=>retH s ((buildSlice A s.H t n l).bind fun (v,H)=>if litOp locs o then freeze 8 H v else some (v,H))
 | .load t x=>(operand A s.e x).bind fun p=>ret1 s (load A s t p)
 | .store t x y=>(operand A s.e x).bind fun p=>(val A s.e y).bind fun a=>(store A s t p a).map fun s'=>(.v .junk,s')
 | .nilCheck x=>(operand A s.e x).bind fun
  | .loc i c=>some (.loc i c,s)
  | .v (.ptr b r c)=>some (.v (.ptr b r c),s)
  | .v (.eptr row)=>some (.v (.eptr row),s)
  | .v (.fn f cs)=>some (.v (.fn f cs),s)
  | .v (.yl b)=>some (.v (.yl b),s)
  |_=>none
 | .binOp b t x y _=>(val A s.e x).bind fun u=>(val A s.e y).bind fun v=>ret1 s (binop A b t u v)
 | .unOp u _ x=>(val A s.e x).bind fun v=>ret1 s (unop u v)
 | .convert src dst x=>(val A s.e x).bind fun v=>retH s (convert A s.H src dst v)
 | .makeFunc (.func f) first caps=>if first.size=0 then (vals A s.e caps.toList).map fun l=>(.v (.fn f l),s) else none
 | .makeMap t r=>
  (match r with|none=>some ()|some x=>(match A.P.underlying t with|some (.map _ _)=>(val A s.e x).bind fun v=>(toInt v).map fun _=>()|_=>none)).bind fun _=>
   some (.v (.mp s.H.bl.length),{ s with H:=push s.H (.map []) })
 | .makeSlice t l c=>(val A s.e l).bind fun u=>(val A s.e c).bind fun v=>retH s (makeSlice A s.H t u v)
 | .slice t x lo hi none=>(val A s.e x).bind fun v=>(optInt A s.e lo).bind fun l=>(optInt A s.e hi).bind fun h=>ret1 s (slice A s.H t v l h)
 | .slice t x none (some h) (some m)=>(val A s.e x).bind fun v=>(val A s.e h).bind fun a=>(val A s.e m).bind fun b=>if is0 a&&is0 b then ret1 s (slice0 A t v) else none
 | .fieldAddr t x f=>(operand A s.e x).bind fun p=>(field? A t f).bind fun fd=>(size A fd.type).bind fun n=>if n=0 then none else (addCell fd.offset p).map fun v=>(v,s)
 | .field t x f=>(val A s.e x).bind fun
  | .agg cs=>(field? A t f).bind fun fd=>ret1 s (part A fd.type cs fd.offset)
  |_=>none
 | .indexAddr t x i=>(operand A s.e x).bind fun p=>(val A s.e i).bind fun n=>(toInt n).bind fun n=>(indexAddr A s.H t p n).map fun v=>(v,s)
 | .index t x i=>(val A s.e x).bind fun v=>(val A s.e i).bind fun n=>(toInt n).bind fun n=>ret1 s (index A t v n)
 | .lookup t x i ok=>(val A s.e x).bind fun m=>(val A s.e i).bind fun k=>ret1 s (lookup A s.H t m k ok)
 | .mapUpdate t m k x| .insert t m k x=>(val A s.e m).bind fun m=>(val A s.e k).bind fun k=>(val A s.e x).bind fun v=>(mapUpdate A s.H t m k v).map fun H=>(.v .junk,{ s with H:=H })
 | .extract x i=>(val A s.e x).bind fun
  | .tup vs=>vs[i]?.map fun v=>(.v v,s)
  |_=>none
 | .call c=>
  (vals A s.e c.args.toList).bind fun args=>
   match c.callee with
   | .value f=>(val A s.e f).bind fun g=>retH s (call g args s.H)
   | .builtin b=>retH s (builtin A s.H b c.argTypes args)
   |_=>none
 |_=>none
def put (s:S) (n:Nat) (dst:Option Nat) (v:SV):Option S:=
 match dst with
 |none=>some s
 |some d=>if d<n then some { s with e:=(d,v)::s.e } else none
inductive Tch where
 |no
 |heap (w:Bool)
 |box (i:Nat) (w:Bool)
def Tch.isHeap:Tch->Bool
 | .heap _=>true
 |_=>false
def Tch.writes:Tch->Bool
 | .heap w=>w
 | .box _ w=>w
 | .no=>false
def touchAt (w:Bool):Option SV->Tch
 |some (.loc i _)=> .box i w
 |some (.v (.eptr _))=>if w then .heap w else .no
 |_=> .heap w
def touchIx:Option SV->Tch
 |some (.v (.sl _ _ _))=> .heap false
 |_=> .no
def touchLen:Option (List AV)->Tch
 |some [.mp _]=> .heap false
 |some _=> .no
 |none=> .heap false
def isLoc (locs:List Nat) (o:Oper):Bool:=(o.dst.map (locs.contains ·)).getD false
def touch (locs:List Nat) (s:S) (o:Oper) (quiet:Bool):Tch:=
 match o.op with
 | .load _ x=>touchAt false (operand A s.e x)
 | .indexAddr _ x _=>touchIx (operand A s.e x)
 | .store _ x _=>touchAt true (operand A s.e x)
 | .alloc _| .box _ _=>if isLoc locs o then .no else .heap false
 | .mapUpdate .. | .insert .. => .heap true
 | .call { callee:= .builtin .copy,.. }| .call { callee:= .builtin .delete,.. }=> .heap true
 | .call { callee:= .builtin .max,.. }| .call { callee:= .builtin .min,.. }=> .no
 | .call { callee:= .builtin .len,args,.. }=>touchLen (vals A s.e args.toList)
 | .call _=> .heap (!quiet)
 | .move _| .assign _| .pick .. | .build .. | .nilCheck _| .binOp .. | .unOp .. | .makeFunc .. | .fieldAddr .. | .field .. | .index .. | .extract .. => .no
 |_=> .heap false
def conflict:Tch->Tch->Bool
 | .heap a,.heap b=>a||b
 | .box i a,.box j b=>i==j&&(a||b)
 |_,_=>false
def force {α:Type} (n:Nat) (k:Nat->α):α:=match n with|0=>k 0|m+1=>k (m+1)
def bitsOf (acc:List Nat):List Edge->Nat
 |[]=>0
 |e::es=>if Region.binds .any e then (2^e.on ||| acc.getD e.on 0) ||| bitsOf acc es else bitsOf acc es
def ancL:List Oper->List Nat->List Nat
 |[],acc=>acc
 |o::os,acc=>force (bitsOf acc o.after.toList) fun b=>ancL os (acc++[b])
def ord (b:List Nat) (i j:Nat):Bool:=(b.getD j 0).testBit i
def stillOp (o:Oper):Bool:=
 match o.op with
 | .load t (.tmp _)=>(match A.P.underlying t with|some (.map _ _)|some (.func _ _ _)=>true|_=>false)
 | .lookup t _ _ false=>(match A.P.underlying t with|some (.map _ et)=>(match A.P.underlying et with|some (.func _ _ _)=>true|_=>false)|_=>false)
 |_=>false
def plainSV (m:Nat):SV->Bool
 | .v (.mp b)=>decide (b<m)
 | .v (.fn _ [])| .v .nilm| .v .nilf=>true
 |_=>false
def ordW (b:List Nat) (i:Nat) (l:List Tch):Bool:=l.zipIdx.all fun (t,j)=> !(t.isHeap&&t.writes)||ord b j i
def mayQuiet (o:Oper):Bool:=
 match o.op with
 | .call { callee:= .value _,.. }| .call { callee:= .builtin .append,.. }=>true
 |_=>false
def heapy (locs:List Nat) (o:Oper):Bool:= !stillOp A o&&
 match o.op with
 | .load _ (.tmp t)| .store _ (.tmp t) _=> !locs.contains t
 | .alloc _| .box _ _=> !isLoc locs o
 | .call { callee:= .builtin .max,.. }| .call { callee:= .builtin .min,.. }| .call { callee:= .builtin .len,.. }=>false
 | .move _| .assign _| .pick .. | .build .. | .nilCheck _| .binOp .. | .unOp .. | .makeFunc .. | .fieldAddr .. | .field .. | .index .. | .extract .. =>false
 |_=>true
def locsIn:List Oper->List Nat->List Nat
 |[],l=>l
 |o::os,l=>
  match o.op,o.dst with
  | .fieldAddr _ (.tmp t) _,some d| .indexAddr _ (.tmp t) _,some d=>locsIn os (if l.contains t then d::l else l)
  |_,_=>locsIn os l
def quietAt (locs:List Nat) (os:List Oper) (b:List Nat) (i:Nat) (o:Oper):Bool:=
 mayQuiet o&& !((o.dst.map fun d=>locs.contains (1000000+d)).getD false)&&os.zipIdx.any fun (oj,j)=>heapy A (locsIn os locs) oj&& !(j==i)&& !ord b i j&& !ord b j i
def slotsOK (os:Array Oper) (b:List Nat):Bool:=
 (os.toList.zipIdx.all fun (o,j)=>o.after.toList.all fun e=> !Region.binds .any e||decide (e.on<j))&&
 os.toList.zipIdx.all fun (oj,j)=>os.toList.zipIdx.all fun (oi,i)=> !(decide (i<j))||ord b i j||oi.apart os oj
def traceOK (b:List Nat) (l:List Tch):Bool:=
 l.zipIdx.all fun (tj,j)=> !tj.writes||l.zipIdx.all fun (ti,i)=>i==j||(decide (i<j)&&ord b i j)||(decide (j<i)&&ord b j i)|| !conflict ti tj
def guardOn (os:Array Oper) (s:S) (o:Oper):Option Bool:=
 match o.guard with
 |none=>some true
 |some (j,want)=>
  match (os[j]?).bind (·.dst) with
  |some d=>match get s.e d with
   | .v (.bool b)=>some (b==want)
   | .v (.tup [])=>some false
   |_=>none
  |none=>none
def ops (call:Callee) (locs:List Nat) (n:Nat) (all:Array Oper):List Oper->S->Option S
 |[],s=>some s
 |o::rest,s=>
  (guardOn all s o).bind fun
   |true=>(op A call locs s o).bind fun (v,s')=>(put s' n o.dst v).bind fun s''=>ops call locs n all rest s''
   |false=>(put s n o.dst (.v (.tup []))).bind fun s'=>ops call locs n all rest s'
def opD (call:Callee) (locs:List Nat) (t:Tch) (s:S) (o:Oper):Option (SV×S):=
 match t with
 | .heap true=>op A call locs s o
 |_=>(op A call locs { s with H:={ s.H with wm:=s.H.bl.length } } o).map fun (v,s')=>(v,{ s' with H:={ s'.H with wm:=s.H.wm } })
def isStill (s:S) (o:Oper):Bool:=
 stillOp A o&&match o.op with
  | .load _ x=>(match operand A s.e x with|some (.v (.ptr ..))=>true|_=>false)
  |_=>true
def StillAll (call:Callee) (locs:List Nat) (rs:List (Oper×List (Nat×SV)×SV)) (s:S):Prop:=∀ r∈rs,∃ s',op A call locs { s with e:=r.2.1 } r.1=some (r.2.2,s')
open Classical in
noncomputable def opsD (call:Callee) (locs:List Nat) (n:Nat) (all:Array Oper) (b:List Nat):List Oper->Nat->S->List Tch->List (Oper×List (Nat×SV)×SV)->Option (S×List Tch)
 |[],_,s,l,_=>some (s,l)
 |o::rest,i,s,l,rs=>
  (guardOn all s o).bind fun
   |true=>
    if isStill A s o then
     (op A call locs s o).bind fun (v,_)=>if plainSV s.H.bl.length v&&ordW b i l then (put s n o.dst v).bind fun s''=>
      if StillAll A call locs (rs++[(o,s.e,v)]) s'' then opsD call locs n all b rest (i+1) s'' (l++[.no]) (rs++[(o,s.e,v)]) else none
     else none
    else (opD A call locs (touch A locs s o (quietAt A locs all.toList b i o)) s o).bind fun (v,s')=>(put s' n o.dst v).bind fun s''=>
     if StillAll A call locs rs s'' then opsD call locs n all b rest (i+1) s'' (l++[touch A locs s o (quietAt A locs all.toList b i o)]) rs else none
   |false=>(put s n o.dst (.v (.tup []))).bind fun s'=>if StillAll A call locs rs s' then opsD call locs n all b rest (i+1) s' (l++[.no]) rs else none
noncomputable def region (call:Callee) (locs:List Nat) (n:Nat) (os:Array Oper) (draw:Bool) (s:S):Option S:=
 if draw then
  if slotsOK os (ancL os.toList []) then
   (opsD A call locs n os (ancL os.toList []) os.toList 0 s [] []).bind fun (s',l)=>if traceOK (ancL os.toList []) l then some s' else none
  else none
 else ops A call locs n os os.toList s
inductive Ex where
 |normal
 |exit (id:Nat)
 |ret
 deriving DecidableEq
def loopMost:Nat:=18446744073709551616
def loopN (body:S->Option (Ex×S)):Nat->S->Option (Ex×S)
 |0,_=>none
 |n+1,s=>(body s).bind fun
  |(.normal,s')=>loopN body n s'
  |(ex,s')=>some (ex,s')
def clean (keep:List Nat) (s:S):S:={ s with e:=keep.map fun i=>(i,get s.e i) }
def envOf (e:List (Nat×SV)):List Nat->Option (List (Nat×AV))
 |[]=>some []
 |i::is=>(match get e i with| .v a=>some a|_=>some .junk).bind fun a=>(envOf e is).map fun l=>(i,a)::l
def envIn:List (Nat×AV)->List (Nat×SV)
 |[]=>[]
 |(i,a)::l=>(i,.v a)::envIn l
def putAll:List Nat->List AV->List (Nat×SV)->List (Nat×SV)
 |p::ps,a::as,e=>putAll ps as ((p,.v a)::e)
 |_,_,e=>e
def jumpOf:Option Code->Option Ex
 |none=>some .normal
 |some .ret=>some .ret
 |some (.exit id)=>some (.exit id)
 |_=>none
def Ex.jump:Ex->Option Code
 | .normal=>none
 | .ret=>some .ret
 | .exit id=>some (.exit id)
def Ex.isNormal:Ex->Bool
 | .normal=>true
 |_=>false
noncomputable def code (call:Callee) (rf:Bool) (locs keep:List Nat) (n:Nat):Code->S->Option (Ex×S)
 | .skip,s=>some (.normal,s)
 | .label _,s=>some (.normal,s)
 | .region _ os draw,s=>(region A call locs n os draw s).map fun s'=>(.normal,s')
 | .seq a b,s=>(code call rf locs keep n a s).bind fun
  |(.normal,s')=>code call rf locs keep n b s'
  |(ex,s')=>some (ex,s')
 | .cond c x y,s=>(val A s.e c).bind fun
  | .bool b=>if b then code call rf locs keep n x s else code call rf locs keep n y s
  |_=>none
 | .block id c,s=>(code call rf locs keep n c s).bind fun
  |(.exit id',s')=>if id'=id then some (.normal,s') else some (.exit id',s')
  |(ex,s')=>some (ex,s')
 | .scope c,s=>code call rf locs keep n c s
 | .loop c,s=>loopN (fun s=>code call rf locs keep n c (clean keep s)) loopMost s
 | .exit id,s=>some (.exit id,s)
 | .ret,s=>some (.ret,s)
 | .rangeFunc g ps assign body,s=>if rf then
   (val A s.e g).bind fun fv=>(envOf s.e keep).bind fun env=>
    (match fv with| .fn f _=>(match A.fns f with|some fn=>if fn.body.isSome then some () else none|none=>none)|_=>none).bind fun _=>
    (call fv [.yl s.H.bl.length] (push s.H (.loop n keep env ps.toList assign body .ready none))).bind fun (_,H)=>
     match H.bl[s.H.bl.length]? with
     |some (.loop _ _ _ _ _ _ st pend)=>
      (match st with| .busy=>none|_=>some ()).bind fun _=>
       if H.wm<=s.H.bl.length then (jumpOf pend).map fun ex=>(ex,{ s with H:=setBl H s.H.bl.length .dead }) else none
     |_=>none
  else none
 |_,_=>none
def argEnv:List AV->Nat->List (Nat×SV)
 |[],_=>[]
 |a::as,i=>(i,.v a)::argEnv as (i+1)
def results (s:S):List ResultVar->Option (List AV)
 |[]=>some []
 | .tmp t::rs=>(match get s.e t with| .v a=>some a|_=>none).bind fun a=>(results s rs).bind fun l=>some (a::l)
 | .cell p t::rs=>(load A s t (get s.e p)).bind fun a=>(results s rs).bind fun l=>some (a::l)
def result:List AV->AV
 |[a]=>a
 |l=> .tup l
noncomputable def call:Nat->Callee
 |0,_,_,_=>none
 |k+1,.fn f caps,args,H=>
  match A.ext f with
  |some g=>g (args++caps) H
  |none=>
   match A.fns f with
   |none=>none
   |some fn=>
    match fn.body with
    |none=>none
    |some c=>
     if (args++caps).length<=fn.ntmps then
      (code A (call k) true (A.loc f) (A.keep f) fn.ntmps c ⟨argEnv (args++caps) 0,[],H⟩).bind fun
       |(.exit _,_)=>none
       |(_,s)=>(results A s fn.results.toList).bind fun l=>
        if A.frz f then freeze 8 s.H (result l) else some (result l,s.H)
     else none
 |k+1,.yl b,args,H=>
  match H.bl[b]? with
  |some (.loop n keep env ps assign body .ready _)=>
   if args.length=ps.length/\H.wm<=b/\ps.all (fun p=>decide (p<n)) then
    (code A (call k) false [] keep n assign ⟨putAll ps args (envIn env),[],H⟩).bind fun
     |(.normal,s)=>
      match s.H.bl[b]? with
      |some (.loop n1 keep1 env1 ps1 assign1 body1 .ready pend1)=>
       (code A (call k) false [] keep n body { s with H:=setBl s.H b (.loop n1 keep1 env1 ps1 assign1 body1 .busy pend1) }).bind fun (ex,s2)=>
        match s2.H.bl[b]? with
        |some (.loop n2 keep2 env2 ps2 assign2 body2 _ _)=>
         some (.bool ex.isNormal,setBl s2.H b (.loop n2 keep2 env2 ps2 assign2 body2 (if ex.isNormal then .ready else .done) ex.jump))
        |_=>none
      |_=>none
     |_=>none
   else none
  |_=>none
 |_+1,_,_,_=>none
end
end Go.V
namespace Go.V
open Go
structure Loc where
 R:Nat
 o:Nat
 e:Nat
 sz:Nat
structure Gx where
 D:Nat->Prop
 ρ:Nat->Loc
 Z:Nat->Prop
section
variable (g:Gx) (w:World)
inductive VRel:AV->Value->Prop
 |junk (v:Value):VRel .junk v
 |bool (b:Bool):VRel (.bool b) (.bool b)
 |int (k:IntKind) (n:Int):VRel (.int k n) (.int k n)
 |str (s:ByteArray):VRel (.str s) (.string s)
 |nilp:VRel .nilp (.pointer none)
 |ptr (b r c:Nat):g.D b->VRel (.ptr b r c) (.pointer (some ⟨(g.ρ b).R,(g.ρ b).o+r * (g.ρ b).sz+c,none⟩))
 |eptr (row:List AV) (a:Addr) (vs:Nat->Value):a.spot=none->g.Z a.block->
  (∀ c,c<row.length->w.cell? ⟨a.block,a.off+c,none⟩=some (vs c))->(∀ c,c<row.length->(vs c).oneCell'=true)->
  (∀ (c:Nat) (x:AV),row[c]?=some x->VRel x (vs c))->VRel (.eptr row) (.pointer (some a))
 |nils:VRel .nils (.slice none 0 0)
 |emp (a:Addr):VRel .emp (.slice (some a) 0 0)
 |sl (b r n cap:Nat):g.D b->n<=cap->(g.ρ b).o+(r+cap) * (g.ρ b).sz<=(g.ρ b).e->cap<=9223372036854775807->
  VRel (.sl b r n) (.slice (some ⟨(g.ρ b).R,(g.ρ b).o+r * (g.ρ b).sz,none⟩) n cap)
 |slz (b r:Nat) (a:Addr):g.D b->VRel (.sl b r 0) (.slice (some a) 0 0)
 |lit (rows:List (List AV)) (a:Addr) (cap sz:Nat) (vs:Nat->Nat->Value):a.spot=none->rows.length<=cap->
  (rows≠[]->g.Z a.block)->(∀ (i:Nat) (row:List AV),rows[i]?=some row->row.length=sz)->
  (∀ i c,i<rows.length->c<sz->w.cell? ⟨a.block,a.off+i * sz+c,none⟩=some (vs i c))->
  (∀ i c,i<rows.length->c<sz->(vs i c).oneCell'=true)->
  (∀ (i:Nat) (row:List AV) (c:Nat) (x:AV),rows[i]?=some row->row[c]?=some x->VRel x (vs i c))->VRel (.lit sz rows) (.slice (some a) rows.length cap)
 |lits (sz:Nat) (a:Addr):VRel (.lit sz []) (.slice (some a) 0 0)
 |nilm:VRel .nilm (.map none)
 |mp (b:Nat):g.D b->VRel (.mp b) (.map (some (g.ρ b).R))
 |nilf:VRel .nilf .nilFunc
 |fn (f:FuncId) (caps:List AV) (vs:List Value):vs.length=caps.length->
  (∀ (i:Nat) (x:AV) (v:Value),caps[i]?=some x->vs[i]?=some v->VRel x v)->VRel (.fn f caps) (.func (.func f) #[] vs.toArray)
 |yl (b:Nat):g.D b->VRel (.yl b) (.func (.yield (g.ρ b).R) #[] #[])
 |nili:VRel .nili .nilIface
 |agg (cs:List AV) (vs:List Value):vs.length=cs.length->(∀ v∈vs,v.oneCell'=true)->
  (∀ (i:Nat) (x:AV) (v:Value),cs[i]?=some x->vs[i]?=some v->VRel x v)->VRel (.agg cs) (.agg vs.toArray)
 |tup (cs:List AV) (vs:List Value):vs.length=cs.length->
  (∀ (i:Nat) (x:AV) (v:Value),cs[i]?=some x->vs[i]?=some v->VRel x v)->VRel (.tup cs) (.tuple vs.toArray)
end
structure Gx.Le (g:Gx) (w:World) (g':Gx) (w':World):Prop where
 D:∀ b,g.D b->g'.D b/\g'.ρ b=g.ρ b
 Z:∀ R,g.Z R->g'.Z R/\w'.heap[R]?=w.heap[R]?
theorem cell_of_heap {w w':World} {a:Addr} (h:w'.heap[a.block]?=w.heap[a.block]?):w'.cell? a=w.cell? a:=by
 simp [World.cell?,h]
theorem VRel.mono {g g':Gx} {w w':World} (h:g.Le w g' w') {x:AV} {v:Value} (hx:VRel g w x v):VRel g' w' x v:=by
 induction hx with
 |junk v=>exact .junk v
 |bool b=>exact .bool b
 |int k n=>exact .int k n
 |str s=>exact .str s
 |nilp=>exact .nilp
 |ptr b r c hd=>have:=h.D b hd;rw [<- this.2];exact .ptr b r c this.1
 |eptr row a vs hs hz hc h1 _ ih=>
  exact .eptr row a vs hs (h.Z _ hz).1 (fun c hc'=>(cell_of_heap (a:=⟨a.block,a.off+c,none⟩) (h.Z _ hz).2).trans (hc c hc')) h1 ih
 |nils=>exact .nils
 |emp a=>exact .emp a
 |sl b r n cap hd hn he hm=>
  have:=h.D b hd;rw [<- this.2];exact .sl b r n cap this.1 hn (by rw [this.2];exact he) hm
 |slz b r a hd=>exact .slz b r a (h.D b hd).1
 |lit rows a cap sz vs hs hc hz hl hw h1 _ ih=>
  refine .lit rows a cap sz vs hs hc (fun hne=>(h.Z _ (hz hne)).1) hl (fun i c hi hc'=> ?_) h1 ih;have hne:rows≠[]:=by intro e;subst e;simp at hi
  exact (cell_of_heap (a:=⟨a.block,a.off+i * sz+c,none⟩) (h.Z _ (hz hne)).2).trans (hw i c hi hc')
 |lits sz a=>exact .lits sz a
 |nilm=>exact .nilm
 |mp b hd=>have:=h.D b hd;rw [<- this.2];exact .mp b this.1
 |nilf=>exact .nilf
 |fn f caps vs hl _ ih=>exact .fn f caps vs hl ih
 |yl b hd=>have:=h.D b hd;rw [<- this.2];exact .yl b this.1
 |nili=>exact .nili
 |agg cs vs hl h1 _ ih=>exact .agg cs vs hl h1 ih
 |tup cs vs hl _ ih=>exact .tup cs vs hl ih
def Row (g:Gx) (w:World) (R e:Nat) (cs:Array Value):Prop:=
 ∃ T fz,w.heap[R]?=some (.cells cs T fz)/\cs.size=e/\(∀ off,off<e->¬ (fz.1<=off/\off<fz.2))/\¬ g.Z R
def RowRel (g:Gx) (w:World) (cs:Array Value) (at_:Nat) (row:List AV):Prop:=
 ∀ c x,row[c]?=some x->∃ v,cs[at_+c]?=some v/\v.oneCell'=true/\VRel g w x v
theorem RowRel.mono {g g':Gx} {w w':World} (h:g.Le w g' w') {cs:Array Value} {k:Nat} {row:List AV} (hr:RowRel g w cs k row):RowRel g' w' cs k row:=
 fun c x hx=>let ⟨v,h1,h2,h3⟩:=hr c x hx;⟨v,h1,h2,h3.mono h⟩
def TyOK (w:World) (l:Loc):Option (TypeId×Nat)->Prop
 |none=>True
 |some (T,k)=>(∃ cs fz,w.heap[l.R]?=some (.cells cs T fz))/\(1<=k->l.o=0)/\(2<=k->l.e=l.sz)
theorem TyOK.of {w w':World} {l:Loc} {ty:Option (TypeId×Nat)} (h:TyOK w l ty) (hR:∀ cs T fz,w.heap[l.R]?=some (.cells cs T fz)->∃ cs' fz',w'.heap[l.R]?=some (.cells cs' T fz')):TyOK w' l ty:=by
 cases ty with
 |none=>trivial
 |some p=>
  obtain ⟨T,k⟩:=p;obtain ⟨⟨cs,fz,h1⟩,h2,h3⟩:=h;exact ⟨hR cs T fz h1,h2,h3⟩
theorem TyOK.same {w w':World} {l:Loc} {ty:Option (TypeId×Nat)} (h:TyOK w l ty) (hR:w'.heap[l.R]?=w.heap[l.R]?):TyOK w' l ty:=
 h.of fun cs T fz h=>⟨cs,fz,by rw [hR];exact h⟩
def BlockRel (g:Gx) (w:World) (l:Loc):AB->Prop
 | .dead=>True
 | .cells rows sz ty=>TyOK w l ty/\0<sz/\l.sz=sz/\l.o+rows.length * sz<=l.e/\∃ cs,Row g w l.R l.e cs/\
  ∀ r row,rows[r]?=some row->row.length=sz/\RowRel g w cs (l.o+r * sz) row
 | .map es=>∃ ces clock,w.heap[l.R]?=some (.map ces clock)/\¬ g.Z l.R/\ces.size=es.length/\
  ∀ (i:Nat) (k x:AV) (e:MapEntry),es[i]?=some (k,x)->ces[i]?=some e->AV.isKey k=true/\VRel g w k e.key/\VRel g w x e.val
 | .loop n _ env ps assign body st pend=>∃ r:Loop,w.heap[l.R]?=some (.loop r)/\¬ g.Z l.R/\r.state=st/\r.pending=pend/\r.params.toList=ps/\r.assign=assign/\r.body=body/\r.tmps.size=n/\
  ∀ (t:Nat) (a:AV),get (envIn env) t= .v a->VRel g w a (r.tmps.getD t undef)
def liveB:AB->Bool
 | .dead=>false
 |_=>true
def live (g:Gx) (H:AH) (b:Nat):Prop:=g.D b/\∃ x,H.bl[b]?=some x/\liveB x=true
structure GlobRel (g:Gx) (w:World) (i:Nat) (row:List AV):Prop where
 v:VRel g w (.eptr row) (.pointer (some ⟨i,0,none⟩))
 n:∃ cs T f,w.heap[i]?=some (.cells cs T f)/\cs.size=row.length
theorem GlobRel.mono {g g':Gx} {w w':World} (h:g.Le w g' w') {i:Nat} {row:List AV} (hx:GlobRel g w i row):GlobRel g' w' i row:=by
 obtain ⟨h1,cs,T,f,h2,h3⟩:=hx;refine ⟨h1.mono h,cs,T,f,?_,h3⟩;cases h1 with
 |eptr _ _ vs hs hz=>rw [(h.Z _ hz).2];exact h2
structure WRel (G:Nat->Option (List AV)) (g:Gx) (w:World) (H:AH):Prop where
 glob:∀ i row,G i=some row->GlobRel g w i row
 dom:∀ b,g.D b->b<H.bl.length
 blk:∀ b x,g.D b->H.bl[b]?=some x->BlockRel g w (g.ρ b) x
 inj:∀ b b',live g H b->live g H b'->b≠b'->(g.ρ b).R≠(g.ρ b').R
 zlt:∀ R,g.Z R->R<w.heap.size
theorem getElem?_lt {α:Type} {a:Array α} {i:Nat} {x:α} (h:a[i]?=some x):i<a.size:=by
 rcases Nat.lt_or_ge i a.size with h'|h'
 · exact h'
 · simp [Array.getElem?_eq_none h'] at h
theorem WRel.lt {G:Nat->Option (List AV)} {g:Gx} {w:World} {H:AH} (h:WRel G g w H) {b:Nat} (hb:live g H b):(g.ρ b).R<w.heap.size:=by
 obtain ⟨hd,x,hx,hl⟩:=hb;have:=h.blk b x hd hx;cases x with
 |dead=>simp [liveB] at hl
 |cells rows sz ty=>obtain ⟨_,_,_,_,cs,⟨T,fz,hR,_⟩,_⟩:=this;exact getElem?_lt hR
 |map es=>obtain ⟨ces,clock,hR,_⟩:=this;exact getElem?_lt hR
 |loop=>obtain ⟨r,hR,_⟩:=this;exact getElem?_lt hR
theorem WRel.notZ {G:Nat->Option (List AV)} {g:Gx} {w:World} {H:AH} (h:WRel G g w H) {b:Nat} (hb:live g H b):¬ g.Z (g.ρ b).R:=by
 obtain ⟨hd,x,hx,hl⟩:=hb;have:=h.blk b x hd hx;cases x with
 |dead=>simp [liveB] at hl
 |cells rows sz ty=>obtain ⟨_,_,_,_,cs,⟨T,fz,hR,_,_,hz⟩,_⟩:=this;exact hz
 |map es=>obtain ⟨ces,clock,hR,hz,_⟩:=this;exact hz
 |loop=>obtain ⟨r,hR,hz,_⟩:=this;exact hz
def Fp (g:Gx) (H:AH) (R:Nat):Prop:=∃ b,live g H b/\(g.ρ b).R=R
structure Ext (g:Gx) (w:World) (H:AH) (g':Gx) (w':World) (H':AH):Prop where
 D:∀ b,g.D b->g'.D b/\g'.ρ b=g.ρ b
 Dnew:∀ b,g'.D b->g.D b\/H.bl.length<=b
 Z:∀ R,g.Z R->g'.Z R
 Znew:∀ R,g'.Z R->g.Z R\/Fp g H R\/w.heap.size<=R
 fp:∀ R,Fp g' H' R->Fp g H R\/w.heap.size<=R
 unch:∀ R,R<w.heap.size->¬ Fp g H R->w'.heap[R]?=w.heap[R]?
 size:w.heap.size<=w'.heap.size
 len:H.bl.length<=H'.bl.length
 wm:H'.wm=H.wm
 quiet:∀ b,b<H.wm->b<H.bl.length->H'.bl[b]?=H.bl[b]?
 still:∀ b,b<H.wm->live g H b->w'.heap[(g.ρ b).R]?=w.heap[(g.ρ b).R]?
 io:w'.os=w.os/\w'.output=w.output
theorem WRel.le {G:Nat->Option (List AV)} {g:Gx} {w:World} {H:AH} {g':Gx} {w':World} {H':AH} (hw:WRel G g w H) (h:Ext g w H g' w' H'):g.Le w g' w':=
 ⟨h.D,fun R hR=>⟨h.Z R hR,h.unch R (hw.zlt R hR) (fun ⟨_,hb,e⟩=>hw.notZ hb (e ▸ hR))⟩⟩
theorem Ext.refl (g:Gx) (w:World) (H:AH):Ext g w H g w H:=
 ⟨fun _ h=>⟨h,rfl⟩,fun _ h=> .inl h,fun _ h=>h,fun _ h=> .inl h,fun _ h=> .inl h,fun _ _ _=>rfl,Nat.le_refl _,Nat.le_refl _,rfl,fun _ _ _=>rfl,fun _ _ _=>rfl,⟨rfl,rfl⟩⟩
theorem Ext.trans {g g1 g2:Gx} {w w1 w2:World} {H H1 H2:AH} (h:Ext g w H g1 w1 H1) (h':Ext g1 w1 H1 g2 w2 H2):Ext g w H g2 w2 H2 where
 D b hb:=⟨(h'.D b (h.D b hb).1).1,(h'.D b (h.D b hb).1).2.trans (h.D b hb).2⟩
 Dnew b hb:=(h'.Dnew b hb).elim (h.Dnew b) fun hl=> .inr (Nat.le_trans h.len hl)
 Z R hR:=h'.Z R (h.Z R hR)
 Znew R hR:=by
  rcases h'.Znew R hR with h1|h1|h1
  · exact h.Znew R h1
  · exact .inr (h.fp R h1)
  · exact .inr (.inr (Nat.le_trans h.size h1))
 fp R hR:=by
  rcases h'.fp R hR with h1|h1
  · exact h.fp R h1
  · exact .inr (Nat.le_trans h.size h1)
 unch R hR hn:=by
  refine (h'.unch R (Nat.lt_of_lt_of_le hR h.size) fun hf=> ?_).trans (h.unch R hR hn);rcases h.fp R hf with h1|h1
  · exact hn h1
  · omega
 size:=Nat.le_trans h.size h'.size
 len:=Nat.le_trans h.len h'.len
 wm:=h'.wm.trans h.wm
 quiet b hb hl:=(h'.quiet b (h.wm ▸ hb) (Nat.lt_of_lt_of_le hl h.len)).trans (h.quiet b hb hl)
 still b hb hv:=by
  have hlt:b<H.bl.length:=by obtain ⟨_,x,hx,_⟩:=hv;rcases Nat.lt_or_ge b H.bl.length with h|h;exact h;simp [List.getElem?_eq_none h] at hx
  have e:=(h.D b hv.1).2;have hv1:live g1 H1 b:=⟨(h.D b hv.1).1,by rw [h.quiet b hb hlt];exact hv.2⟩;have h1:=h'.still b (h.wm ▸ hb) hv1;rw [e] at h1;exact h1.trans (h.still b hb hv)
 io:=⟨h'.io.1.trans h.io.1,h'.io.2.trans h.io.2⟩
structure Fx where
 E:Nat->Prop
 φ:Nat->Nat
 W:Nat->Prop
structure FRel (g:Gx) (f:Fx) (w:World) (H:AH) (F:List (List AV)):Prop where
 dom:∀ i,f.E i->i<F.length
 blk:∀ i row,f.E i->F[i]?=some row->∃ cs,Row g w (f.φ i) row.length cs/\RowRel g w cs 0 row
 inj:∀ i j,f.E i->f.E j->i≠j->f.φ i≠f.φ j
 apart:∀ i,f.E i->¬ Fp g H (f.φ i)
theorem FRel.lt {g:Gx} {f:Fx} {w:World} {H:AH} {F:List (List AV)} (h:FRel g f w H F) {i:Nat} (hi:f.E i):f.φ i<w.heap.size:=by
 have hl:=h.dom i hi;obtain ⟨cs,⟨T,fz,hR,_⟩,_⟩:=h.blk i F[i] hi (by simp [hl]);exact getElem?_lt hR
theorem FRel.notZ {g:Gx} {f:Fx} {w:World} {H:AH} {F:List (List AV)} (h:FRel g f w H F) {i:Nat} (hi:f.E i):¬ g.Z (f.φ i):=by
 have hl:=h.dom i hi;obtain ⟨cs,⟨T,fz,hR,_,_,hz⟩,_⟩:=h.blk i F[i] hi (by simp [hl]);exact hz
def SVRel (g:Gx) (f:Fx) (w:World):SV->Value->Prop
 | .v a,v=>VRel g w a v
 | .loc i c,v=>f.E i/\v= .pointer (some ⟨f.φ i,c,none⟩)
structure FExt (g:Gx) (f:Fx) (w:World) (H:AH) (F:List (List AV)) (g':Gx) (f':Fx) (w':World) (H':AH) (F':List (List AV)):Prop where
 D:∀ b,g.D b->g'.D b/\g'.ρ b=g.ρ b
 Dnew:∀ b,g'.D b->g.D b\/H.bl.length<=b
 Z:∀ R,g.Z R->g'.Z R
 Znew:∀ R,g'.Z R->g.Z R\/Fp g H R\/w.heap.size<=R
 fp:∀ R,Fp g' H' R->Fp g H R\/w.heap.size<=R
 E:∀ i,f.E i->f'.E i/\f'.φ i=f.φ i
 Enew:∀ i,f'.E i->f.E i\/F.length<=i
 φnew:∀ i,f'.E i->¬ f.E i->w.heap.size<=f'.φ i
 unch:∀ R,R<w.heap.size->¬ Fp g H R->(∀ i,f.E i->f.φ i≠R)->w'.heap[R]?=w.heap[R]?
 size:w.heap.size<=w'.heap.size
 len:H.bl.length<=H'.bl.length
 flen:F.length<=F'.length
 wm:H'.wm=H.wm
 quiet:∀ b,b<H.wm->b<H.bl.length->H'.bl[b]?=H.bl[b]?
 still:∀ b,b<H.wm->live g H b->w'.heap[(g.ρ b).R]?=w.heap[(g.ρ b).R]?
 W:∀ i,f.E i->(f'.W i↔f.W i)
 Wnew:∀ i,f'.E i->¬ f.E i->f'.W i
 own:∀ i,f.E i->¬ f.W i->w'.heap[f.φ i]?=w.heap[f.φ i]?
 io:w'.os=w.os/\w'.output=w.output
theorem FExt.le {G:Nat->Option (List AV)} {g g':Gx} {f f':Fx} {w w':World} {H H':AH} {F F':List (List AV)} (hw:WRel G g w H) (hf:FRel g f w H F) (h:FExt g f w H F g' f' w' H' F'):g.Le w g' w':=
 ⟨h.D,fun R hR=>⟨h.Z R hR,h.unch R (hw.zlt R hR) (fun ⟨_,hb,e⟩=>hw.notZ hb (e ▸ hR)) (fun _ hi e=>hf.notZ hi (e ▸ hR))⟩⟩
theorem FExt.refl (g:Gx) (f:Fx) (w:World) (H:AH) (F:List (List AV)):FExt g f w H F g f w H F:=
 ⟨fun _ h=>⟨h,rfl⟩,fun _ h=> .inl h,fun _ h=>h,fun _ h=> .inl h,fun _ h=> .inl h,fun _ h=>⟨h,rfl⟩,fun _ h=> .inl h,fun _ h h'=>absurd h h',fun _ _ _ _=>rfl,Nat.le_refl _,Nat.le_refl _,Nat.le_refl _,rfl,fun _ _ _=>rfl,fun _ _ _=>rfl,fun _ _=>Iff.rfl,fun _ h h'=>absurd h h',fun _ _ _=>rfl,⟨rfl,rfl⟩⟩
theorem FExt.trans {g g1 g2:Gx} {f f1 f2:Fx} {w w1 w2:World} {H H1 H2:AH} {F F1 F2:List (List AV)}
  (h:FExt g f w H F g1 f1 w1 H1 F1) (h':FExt g1 f1 w1 H1 F1 g2 f2 w2 H2 F2):FExt g f w H F g2 f2 w2 H2 F2 where
 D b hb:=⟨(h'.D b (h.D b hb).1).1,(h'.D b (h.D b hb).1).2.trans (h.D b hb).2⟩
 Dnew b hb:=(h'.Dnew b hb).elim (h.Dnew b) fun hl=> .inr (Nat.le_trans h.len hl)
 Z R hR:=h'.Z R (h.Z R hR)
 Znew R hR:=by
  rcases h'.Znew R hR with h1|h1|h1
  · exact h.Znew R h1
  · exact .inr (h.fp R h1)
  · exact .inr (.inr (Nat.le_trans h.size h1))
 fp R hR:=by
  rcases h'.fp R hR with h1|h1
  · exact h.fp R h1
  · exact .inr (Nat.le_trans h.size h1)
 E i hi:=⟨(h'.E i (h.E i hi).1).1,(h'.E i (h.E i hi).1).2.trans (h.E i hi).2⟩
 Enew i hi:=(h'.Enew i hi).elim (h.Enew i) fun hl=> .inr (Nat.le_trans h.flen hl)
 φnew i hi hn:=by
  by_cases h1:f1.E i
  · rw [(h'.E i h1).2];exact h.φnew i h1 hn
  · exact Nat.le_trans h.size (h'.φnew i hi h1)
 unch R hR hn hi:=by
  refine (h'.unch R (Nat.lt_of_lt_of_le hR h.size) (fun hf=> ?_) (fun i h1 e=> ?_)).trans (h.unch R hR hn hi)
  · rcases h.fp R hf with h1|h1
    · exact hn h1
    · omega
  · by_cases h2:f.E i
    · exact hi i h2 ((h.E i h2).2 ▸ e)
    · have:=h.φnew i h1 h2;omega
 size:=Nat.le_trans h.size h'.size
 len:=Nat.le_trans h.len h'.len
 flen:=Nat.le_trans h.flen h'.flen
 wm:=h'.wm.trans h.wm
 quiet b hb hl:=(h'.quiet b (h.wm ▸ hb) (Nat.lt_of_lt_of_le hl h.len)).trans (h.quiet b hb hl)
 still b hb hv:=by
  have hlt:b<H.bl.length:=by obtain ⟨_,x,hx,_⟩:=hv;rcases Nat.lt_or_ge b H.bl.length with h|h;exact h;simp [List.getElem?_eq_none h] at hx
  have e:=(h.D b hv.1).2;have hv1:live g1 H1 b:=⟨(h.D b hv.1).1,by rw [h.quiet b hb hlt];exact hv.2⟩;have h1:=h'.still b (h.wm ▸ hb) hv1;rw [e] at h1;exact h1.trans (h.still b hb hv)
 W i hi:=(h'.W i (h.E i hi).1).trans (h.W i hi)
 Wnew i hi hn:=by
  by_cases h1:f1.E i
  · exact (h'.W i h1).2 (h.Wnew i h1 hn)
  · exact h'.Wnew i hi h1
 own i hi hn:=by
  have e:=(h.E i hi).2;have h1:=h'.own i (h.E i hi).1 (fun hw=>hn ((h.W i hi).1 hw));rw [e] at h1;exact h1.trans (h.own i hi hn)
 io:=⟨h'.io.1.trans h.io.1,h'.io.2.trans h.io.2⟩
theorem SVRel.mono {g g':Gx} {f f':Fx} {w w':World} (h:g.Le w g' w') (hE:∀ i,f.E i->f'.E i/\f'.φ i=f.φ i) {x:SV} {v:Value} (hx:SVRel g f w x v):SVRel g' f' w' x v:=by
 cases x with
 |v a=>exact VRel.mono h hx
 |loc i c=>obtain ⟨h1,h2⟩:=hx;exact ⟨(hE i h1).1,by rw [(hE i h1).2];exact h2⟩
def EnvRel (g:Gx) (f:Fx) (w:World) (e:List (Nat×SV)) (tmps:Array Value):Prop:=
 ∀ t,SVRel g f w (get e t) (tmps.getD t undef)
def Marks (g:Gx) (w:World):List Deferred->Prop
 |[]=>True
 |d::ds=>(∃ r,d.target= .collected r/\w.heap[r]?=some (.deferred (some []))/\¬ g.Z r/\∀ d'∈ds,d'.target≠ .collected r)/\Marks g w ds
def DExt (w:World) (ds ds':List Deferred):Prop:=∀ d∈ds',d∈ds\/∃ r,d.target= .collected r/\w.heap.size<=r
theorem DExt.refl (w:World) (ds:List Deferred):DExt w ds ds:=fun _ h=> .inl h
theorem DExt.trans {w w1:World} {d d1 d2:List Deferred} (hs:w.heap.size<=w1.heap.size) (h:DExt w d d1) (h':DExt w1 d1 d2):DExt w d d2:=fun x hx=>by
 rcases h' x hx with h1|⟨r,h1,h2⟩
 · exact h x h1
 · exact .inr ⟨r,h1,by omega⟩
theorem WRel.notMark {G:Nat->Option (List AV)} {g:Gx} {w:World} {H:AH} (h:WRel G g w H) {r:Nat} {x:Option (List Deferred)} (hr:w.heap[r]?=some (.deferred x)):¬ Fp g H r:=by
 rintro ⟨b,⟨hd,y,hy,hl⟩,rfl⟩
 have:=h.blk b y hd hy;cases y with
 |dead=>simp [liveB] at hl
 |cells rows sz ty=>obtain ⟨_,_,_,_,cs,⟨T,fz,hR,_⟩,_⟩:=this;rw [hr] at hR;simp at hR
 |map es=>obtain ⟨ces,clock,hR,_⟩:=this;rw [hr] at hR;simp at hR
 |loop=>obtain ⟨q,hR,_⟩:=this;rw [hr] at hR;simp at hR
theorem FRel.notMark {g:Gx} {f:Fx} {w:World} {H:AH} {F:List (List AV)} (h:FRel g f w H F) {r:Nat} {x:Option (List Deferred)} (hr:w.heap[r]?=some (.deferred x)) {i:Nat} (hi:f.E i):f.φ i≠r:=by
 rintro rfl
 have hl:=h.dom i hi;obtain ⟨cs,⟨T,fz,hR,_⟩,_⟩:=h.blk i F[i] hi (by simp [hl]);rw [hr] at hR;simp at hR
theorem Marks.step {G:Nat->Option (List AV)} {g g':Gx} {f f':Fx} {w w':World} {H H':AH} {F F':List (List AV)} (hw:WRel G g w H) (hf:FRel g f w H F) (h:FExt g f w H F g' f' w' H' F'):∀ {ds:List Deferred},Marks g w ds->Marks g' w' ds
 |[],_=>trivial
 |d::ds,⟨⟨r,h1,h2,h3,h4⟩,hm⟩=>⟨⟨r,h1,by
  rw [h.unch r (getElem?_lt h2) (hw.notMark h2) (fun i hi=>hf.notMark h2 hi)];exact h2,fun hz=>by
  rcases h.Znew r hz with hz|hz|hz
  · exact h3 hz
  · exact hw.notMark h2 hz
  · have:=getElem?_lt h2;omega,h4⟩,Marks.step hw hf h hm⟩
structure St (G:Nat->Option (List AV)) (g:Gx) (f:Fx) (s:S) (n:Nat) (a:Act) (w:World):Prop where
 hw:WRel G g w s.H
 hf:FRel g f w s.H s.F
 he:EnvRel g f w s.e a.tmps
 hn:a.tmps.size=n
 hm:Marks g w a.defers
 hW:∀ i,f.E i->f.W i
theorem FExt.allW {g g':Gx} {f f':Fx} {w w':World} {H H':AH} {F F':List (List AV)} (h:FExt g f w H F g' f' w' H' F') (hW:∀ i,f.E i->f.W i):∀ i,f'.E i->f'.W i:=fun i hi=>by
 by_cases h1:f.E i
 · exact (h.W i h1).2 (hW i h1)
 · exact h.Wnew i hi h1
end Go.V
namespace Go.V
open Go
theorem pick {α β:Type} (Q:Nat->α->β->Prop):∀ l:List α,(∀ (j:Nat) (x:α),l[j]?=some x->∃ v,Q j x v)->
  ∃ vs:List β,vs.length=l.length/\∀ (j:Nat) (x:α) (v:β),l[j]?=some x->vs[j]?=some v->Q j x v:=by
 intro l;induction l generalizing Q with
 |nil=>intro _;exact ⟨[],rfl,fun j x v h=>by simp at h⟩
 |cons a l ih=>
  intro h;obtain ⟨v0,h0⟩:=h 0 a rfl;obtain ⟨vs,hl,hv⟩:=ih (fun j=>Q (j+1)) (fun j x hx=>h (j+1) x (by simpa using hx));refine ⟨v0::vs,by simp [hl],fun j x v hx hv'=> ?_⟩;cases j with
  |zero=>simp at hx hv';subst hx;subst hv';exact h0
  |succ j=>exact hv j x v (by simpa using hx) (by simpa using hv')
theorem add_none (R o n:Nat):(⟨R,o,none⟩:Addr).add n=⟨R,o+n,none⟩:=by
 unfold Addr.add;split<;>simp_all
theorem spot_none {a:Addr} (h:a.spot=none):a=⟨a.block,a.off,none⟩:=by cases a;simp_all
def CellsAt (g:Gx) (w:World) (R base:Nat) (row:List AV):Prop:=
 ∀ (j:Nat) (x:AV),row[j]?=some x->∃ v,w.cell? ⟨R,base+j,none⟩=some v/\v.oneCell'=true/\VRel g w x v
theorem CellsAt.of_row {g:Gx} {w:World} {R at_:Nat} {cs:Array Value} {row:List AV} {T:TypeId} {fz:Nat×Nat} (hR:w.heap[R]?=some (.cells cs T fz)) (h:RowRel g w cs at_ row):CellsAt g w R at_ row:=by
 intro j x hx;obtain ⟨v,h1,h2,h3⟩:=h j x hx;exact ⟨v,by rw [cell_of_row w R _ cs T fz hR];exact h1,h2,h3⟩
section
variable {A:Par} {g:Gx} {w:World}
theorem run_isAgg {t:TypeId} {b:Bool} (h:isAgg A t=some b):(Go.isAgg t).run A.P w= .ok b w:=by
 unfold isAgg at h;unfold Go.isAgg;split at h
 · simp at h;subst h;rename_i fs hu;simp [run_underlying hu]
 · simp at h;subst h;rename_i n e hu;simp [run_underlying hu]
 · rename_i d hn1 hn2 hu;simp at h;subst h;simp only [Sem.run_bind,run_underlying hu,Result.andThen_ok,Sem.run_pure]
 · simp at h
theorem run_size {t:TypeId} {n:Nat} (h:size A t=some n):(sizeOf t).run A.P w= .ok n w:=by
 unfold size at h;cases hi:A.P.info? t with
 |none=>simp [hi] at h
 |some i=>simp [hi] at h;simp [sizeOf,typeInfo,hi,h]
theorem run_loadVar {t:TypeId} {row:List AV} {c R base:Nat} {x:AV} (hp:part A t row c=some x) (hc:CellsAt g w R base row):
  ∃ v,(loadVar t ⟨R,base+c,none⟩).run A.P w= .ok v w/\VRel g w x v:=by
 unfold part at hp;cases hagg:isAgg A t with
 |none=>simp [hagg] at hp
 |some b=>
  simp only [hagg,Option.bind_some] at hp;cases b with
  |true=>
   simp only at hp;cases hn:size A t with
   |none=>simp [hn] at hp
   |some n=>
    simp only [hn,Option.bind_some] at hp;split at hp
    case isFalse=>simp at hp
    case isTrue hle=>
     simp only [Option.some.injEq] at hp;subst hp;obtain ⟨vs,hl,hv⟩:=pick (fun j x v=>w.cell? ⟨R,base+c+j,none⟩=some v/\v.oneCell'=true/\VRel g w x v) ((row.drop c).take n)
       (fun j x hx=>by
        rw [List.getElem?_take] at hx;split at hx
        · rw [List.getElem?_drop] at hx;have:=hc (c+j) x hx
          rwa [<- Nat.add_assoc] at this
        · simp at hx)
     have hlen:((row.drop c).take n).length=n:=by simp;omega
     have hrow:∀ (j:Nat) (v:Value),vs[j]?=some v->∃ x,((row.drop c).take n)[j]?=some x:=fun j v hjv=>by
       have:j<vs.length:=by rcases Nat.lt_or_ge j vs.length with h|h;exact h;simp [List.getElem?_eq_none h] at hjv
       exact ⟨_,List.getElem?_eq_getElem (hl ▸ this)⟩
     have hlc:=run_loadCells_list (P:=A.P) w ⟨R,base+c,none⟩ vs (fun j v hjv=>by
       rw [add_none];obtain ⟨x,hx⟩:=hrow j v hjv;exact (hv j x v hx hjv).1)
     refine ⟨.agg vs.toArray,?_,.agg _ vs (by rw [hl]) (fun v hv'=> ?_) (fun i x v hx hi=>(hv i x v hx hi).2.2)⟩
     · simp only [loadVar,Sem.run_bind,run_isAgg hagg,Result.andThen_ok,if_true,run_size hn];rw [show n=vs.length by rw [hl,hlen],hlc];rfl
     · obtain ⟨i,hi⟩:=List.getElem?_of_mem hv';obtain ⟨x,hx⟩:=hrow i v hi;exact (hv i x v hx hi).2.1
  |false=>
   simp only at hp;obtain ⟨v,h1,h2,h3⟩:=hc c x hp;refine ⟨v,?_,h3⟩;simp [loadVar,run_isAgg hagg,h1]
theorem run_storeCells_gen (P:Program) (R o:Nat) (T:TypeId) (fz:Nat×Nat):∀ (vs:List Value) (i:Nat) (cur:Array Value) (w:World),w.heap[R]?=some (.cells cur T fz)->o+i+vs.length<=cur.size->
  (∀ j,j<vs.length->¬ (fz.1<=o+i+j/\o+i+j<fz.2))->(∀ v∈vs,v.oneCell'=true)->
  (storeCells ⟨R,o,none⟩ vs i).run P w= .ok () (w.setRow R (cur.toList.take (o+i)++vs++cur.toList.drop (o+i+vs.length)).toArray)
 |[],i,cur,w,hg,_,_,_=>by
  simp only [storeCells,List.append_nil,List.length_nil,Nat.add_zero,List.take_append_drop,Array.toArray_toList];rw [setRow_self w R cur T fz hg];rfl
 |v::rest,i,cur,w,hg,hl,hf,h1=>by
  have hi:o+i<cur.size:=by simp at hl;omega
  have hcell:w.cell? ⟨R,o+i,none⟩=some cur[o+i]:=by simp [World.cell?,hg,hi]
  have hfro:w.frozen? ⟨R,o+i,none⟩=false:=by
   have:=hf 0 (by simp);simp only [World.frozen?,hg,Nat.add_zero] at this ⊢
   simpa using this
  have hst:(Go.store ((⟨R,o,none⟩:Addr).add i) v).run P w= .ok () (w.setRow R (cur.setIfInBounds (o+i) v)):=by
   rw [add_none,run_store P w _ v _ (h1 v (by simp)),hcell];simp [hfro,setCell_eq_setRow w R (o+i) cur T fz v hg]
  have ih:=run_storeCells_gen P R o T fz rest (i+1) (cur.setIfInBounds (o+i) v) (w.setRow R (cur.setIfInBounds (o+i) v)) (setRow_heap w R cur _ T _ hg) (by simp at hl ⊢;omega)
   (fun j hj=>by have:=hf (j+1) (by simp;omega);rwa [show o+i+(j+1)=o+(i+1)+j by omega] at this) (fun x hx=>h1 x (by simp [hx]))
  simp only [storeCells,Sem.run_bind,hst,Result.andThen_ok,ih,setRow_setRow];congr 3;have e:=list_seg_step cur.toList (o+i) v rest (by simp at hl ⊢;omega)
  simpa [Array.toList_setIfInBounds,Nat.add_assoc] using e
theorem setRow_size (w:World) (R:Nat) (cs:Array Value):(w.setRow R cs).heap.size=w.heap.size:=by simp [World.setRow]
end
end Go.V
namespace Go.V
open Go
section
variable {G:Nat->Option (List AV)} {g:Gx} {f:Fx} {w:World} {H:AH} {F:List (List AV)}
theorem Gx.Le.heap {w':World} (h:w'.heap=w.heap):g.Le w g w':=⟨fun _ hb=>⟨hb,rfl⟩,fun _ hR=>⟨hR,by rw [h]⟩⟩
theorem WRel.heap {w':World} (hw:WRel G g w H) (h:w'.heap=w.heap):WRel G g w' H where
 glob i row hg:=(hw.glob i row hg).mono (.heap h)
 dom:=hw.dom
 blk b x hd hx:=by
  have:=hw.blk b x hd hx;cases x with
  |dead=>trivial
  |cells rows sz ty=>
   obtain ⟨h0,h1,h2,h3,cs,⟨T,fz,hR,h4⟩,h5⟩:=this;exact ⟨h0.same (by rw [h]),h1,h2,h3,cs,⟨T,fz,by rw [h];exact hR,h4⟩,fun r row hr=>⟨(h5 r row hr).1,(h5 r row hr).2.mono (.heap h)⟩⟩
  |map es=>
   obtain ⟨ces,clock,hR,hz,hl,h5⟩:=this;exact ⟨ces,clock,by rw [h];exact hR,hz,hl,fun i k x e he hc=>⟨(h5 i k x e he hc).1,(h5 i k x e he hc).2.1.mono (.heap h),(h5 i k x e he hc).2.2.mono (.heap h)⟩⟩
  |loop=>obtain ⟨r,hR,h1,h2,h3,h4,h5,h6,h7,h8⟩:=this;exact ⟨r,by rw [h];exact hR,h1,h2,h3,h4,h5,h6,h7,fun t a ha=>(h8 t a ha).mono (.heap h)⟩
 inj:=hw.inj
 zlt R hR:=by rw [h];exact hw.zlt R hR
theorem FRel.heap {w':World} (hf:FRel g f w H F) (h:w'.heap=w.heap):FRel g f w' H F where
 dom:=hf.dom
 blk i row hi hr:=by
  obtain ⟨cs,⟨T,fz,hR,h4⟩,h5⟩:=hf.blk i row hi hr;exact ⟨cs,⟨T,fz,by rw [h];exact hR,h4⟩,h5.mono (.heap h)⟩
 inj:=hf.inj
 apart:=hf.apart
theorem FExt.heap {w':World} (h:w'.heap=w.heap) (hio:w'.os=w.os/\w'.output=w.output:=by first|exact ⟨rfl,rfl⟩|assumption):FExt g f w H F g f w' H F:=
 ⟨fun _ h=>⟨h,rfl⟩,fun _ h=> .inl h,fun _ h=>h,fun _ h=> .inl h,fun _ h=> .inl h,fun _ h=>⟨h,rfl⟩,fun _ h=> .inl h,fun _ h h'=>absurd h h',fun _ _ _ _=>by rw [h],by rw [h];exact Nat.le_refl _,Nat.le_refl _,Nat.le_refl _,rfl,fun _ _ _=>rfl,fun _ _ _=>by rw [h],fun _ _=>Iff.rfl,fun _ h h'=>absurd h h',fun _ _ _=>by rw [h],hio⟩
theorem setBl_get (H:AH) (b b':Nat) (x:AB):(setBl H b x).bl[b']?=if b=b' then (if b<H.bl.length then some x else none) else H.bl[b']?:=by
 simp only [setBl,List.getElem?_set]
theorem live_setBl {b b':Nat} {x:AB} (h:live g (setBl H b x) b'):(b'=b/\liveB x=true)\/(b'≠b/\live g H b'):=by
 obtain ⟨hd,y,hy,hl⟩:=h;rw [setBl_get] at hy;split at hy
 · rename_i e;split at hy
   · simp at hy;subst hy;exact .inl ⟨e.symm,hl⟩
   · simp at hy
 · rename_i e;exact .inr ⟨fun e'=>e e'.symm,hd,y,hy,hl⟩
theorem BlockRel.other {w':World} {l:Loc} {x:AB} (hle:g.Le w g w') (hR:liveB x=true->w'.heap[l.R]?=w.heap[l.R]?) (h:BlockRel g w l x):BlockRel g w' l x:=by
 cases x with
 |dead=>trivial
 |cells rows sz ty=>
  obtain ⟨h0,h1,h2,h3,cs,⟨T,fz,hR',h4⟩,h5⟩:=h;exact ⟨h0.same (hR rfl),h1,h2,h3,cs,⟨T,fz,by rw [hR rfl];exact hR',h4⟩,fun r row hr=>⟨(h5 r row hr).1,(h5 r row hr).2.mono hle⟩⟩
 |map es=>
  obtain ⟨ces,clock,hR',hz,hl,h5⟩:=h;exact ⟨ces,clock,by rw [hR rfl];exact hR',hz,hl,fun i k x e he hc=>⟨(h5 i k x e he hc).1,(h5 i k x e he hc).2.1.mono hle,(h5 i k x e he hc).2.2.mono hle⟩⟩
 |loop=>obtain ⟨r,hR',h1,h2,h3,h4,h5,h6,h7,h8⟩:=h;exact ⟨r,by rw [hR rfl];exact hR',h1,h2,h3,h4,h5,h6,h7,fun t a ha=>(h8 t a ha).mono hle⟩
theorem write_block {w':World} {b:Nat} {x:AB} (hw:WRel G g w H) (hf:FRel g f w H F) (hb:live g H b) (hwm:H.wm<=b)
   (hsize:w'.heap.size=w.heap.size) (hoth:∀ R,R≠(g.ρ b).R->w'.heap[R]?=w.heap[R]?) (hx:g.Le w g w'->BlockRel g w' (g.ρ b) x) (hio:w'.os=w.os/\w'.output=w.output:=by first|exact ⟨rfl,rfl⟩|assumption):
   WRel G g w' (setBl H b x)/\FRel g f w' (setBl H b x) F/\FExt g f w H F g f w' (setBl H b x) F:=by
 have hle:g.Le w g w':=⟨fun _ hb=>⟨hb,rfl⟩,fun R hR=>⟨hR,hoth R (fun e=>hw.notZ hb (e ▸ hR))⟩⟩;have hfp:∀ R,Fp g (setBl H b x) R->Fp g H R:=fun R ⟨b',hl,e⟩=>by
   rcases live_setBl hl with ⟨rfl,_⟩|⟨_,h⟩
   · exact ⟨_,hb,e⟩
   · exact ⟨_,h,e⟩
 refine ⟨⟨fun i row hg=>(hw.glob i row hg).mono hle,fun b' hd=>by simpa [setBl] using hw.dom b' hd,fun b' y hd hy=> ?_,fun b1 b2 h1 h2 hne=> ?_,fun R hR=>by rw [hsize];exact hw.zlt R hR⟩,
   ⟨hf.dom,fun i row hi hr=> ?_,hf.inj,fun i hi h=>hf.apart i hi (hfp _ h)⟩,?_⟩
 · rw [setBl_get] at hy;split at hy
   · rename_i e;subst e;split at hy
     · simp at hy;subst hy;exact hx hle
     · simp at hy
   · rename_i e;refine (hw.blk b' y hd hy).other hle (fun hl=>hoth _ (hw.inj b' b ⟨hd,y,hy,hl⟩ hb (fun e'=>e e'.symm)))
 · have h1':live g H b1:=by rcases live_setBl h1 with ⟨rfl,_⟩|⟨_,h⟩<;>assumption
   have h2':live g H b2:=by rcases live_setBl h2 with ⟨rfl,_⟩|⟨_,h⟩<;>assumption
   exact hw.inj b1 b2 h1' h2' hne
 · obtain ⟨cs,⟨T,fz,hR,h4⟩,h5⟩:=hf.blk i row hi hr;exact ⟨cs,⟨T,fz,by rw [hoth _ (fun e=>hf.apart i hi ⟨b,hb,e.symm⟩)];exact hR,h4⟩,h5.mono hle⟩
 · refine ⟨fun _ h=>⟨h,rfl⟩,fun _ h=> .inl h,fun _ h=>h,fun _ h=> .inl h,fun R h=> .inl (hfp R h),fun _ h=>⟨h,rfl⟩,fun _ h=> .inl h,fun _ h h'=>absurd h h',fun R _ hn _=>hoth R (fun e=>hn ⟨b,hb,e.symm⟩),by rw [hsize];exact Nat.le_refl _,by simp [setBl],Nat.le_refl _,rfl,fun b' hb' _=> ?_,fun b' hb' hv=>hoth _ (hw.inj b' b hv hb (by omega)),fun _ _=>Iff.rfl,fun _ h h'=>absurd h h',fun i hi _=>hoth _ (fun e=>hf.apart i hi ⟨b,hb,e.symm⟩),hio⟩;rw [setBl_get,if_neg (by omega)]
theorem write_box {w':World} {i:Nat} {row:List AV} (hw:WRel G g w H) (hf:FRel g f w H F) (hi:f.E i) (hWi:f.W i)
   (hsize:w'.heap.size=w.heap.size) (hoth:∀ R,R≠f.φ i->w'.heap[R]?=w.heap[R]?) (hx:g.Le w g w'->∃ cs,Row g w' (f.φ i) row.length cs/\RowRel g w' cs 0 row) (hio:w'.os=w.os/\w'.output=w.output:=by first|exact ⟨rfl,rfl⟩|assumption):
   WRel G g w' H/\FRel g f w' H (F.set i row)/\FExt g f w H F g f w' H (F.set i row):=by
 have hle:g.Le w g w':=⟨fun _ hb=>⟨hb,rfl⟩,fun R hR=>⟨hR,hoth R (fun e=>hf.notZ hi (e ▸ hR))⟩⟩;refine ⟨⟨fun i row hg=>(hw.glob i row hg).mono hle,hw.dom,fun b y hd hy=>(hw.blk b y hd hy).other hle (fun hl=>hoth _ (fun e=>hf.apart i hi ⟨b,⟨hd,y,hy,hl⟩,e⟩)),hw.inj,fun R hR=>by rw [hsize];exact hw.zlt R hR⟩,
   ⟨fun j hj=>by simpa using hf.dom j hj,fun j row' hj hr=> ?_,hf.inj,hf.apart⟩,?_⟩
 · rw [List.getElem?_set] at hr;split at hr
   · rename_i e;subst e;split at hr
     · simp at hr;subst hr;exact hx hle
     · simp at hr
   · rename_i e;obtain ⟨cs,⟨T,fz,hR,h4⟩,h5⟩:=hf.blk j row' hj hr;exact ⟨cs,⟨T,fz,by rw [hoth _ (fun e'=>e ((Classical.byContradiction fun hne=>hf.inj i j hi hj hne e'.symm)))];exact hR,h4⟩,h5.mono hle⟩
 · exact ⟨fun _ h=>⟨h,rfl⟩,fun _ h=> .inl h,fun _ h=>h,fun _ h=> .inl h,fun _ h=> .inl h,fun _ h=>⟨h,rfl⟩,fun _ h=> .inl h,fun _ h h'=>absurd h h',fun R _ _ hn=>hoth R (fun e=>hn i hi e.symm),by rw [hsize];exact Nat.le_refl _,Nat.le_refl _,by simp,rfl,fun _ _ _=>rfl,fun b _ hv=>hoth _ (fun e=>hf.apart i hi ⟨b,hv,e⟩),fun _ _=>Iff.rfl,fun _ h h'=>absurd h h',fun j hj hn=>hoth _ (fun e=>hn ((Classical.byContradiction fun hne=>hf.inj j i hj hi (fun e'=>hne (e' ▸ hWi)) e))),hio⟩
def Gx.add (g:Gx) (b:Nat) (l:Loc):Gx:={ g with D:=fun i=>g.D i\/i=b,ρ:=fun i=>if i=b then l else g.ρ i }
def Fx.add (f:Fx) (i R:Nat):Fx:={ E:=fun j=>f.E j\/j=i,φ:=fun j=>if j=i then R else f.φ j,W:=fun j=>f.W j\/j=i }
theorem push_get (H:AH) (x:AB) (b:Nat):(push H x).bl[b]?=if b<H.bl.length then H.bl[b]? else if b=H.bl.length then some x else none:=by
 simp only [push];rcases Nat.lt_trichotomy b H.bl.length with h|h|h
 · simp [h,List.getElem?_append_left]
 · subst h;simp
 · rw [List.getElem?_append_right (by omega),if_neg (by omega),if_neg (by omega)];exact List.getElem?_eq_none (by simp;omega)
theorem live_add {l:Loc} {x:AB} {b:Nat} (hdom:∀ b,g.D b->b<H.bl.length) (h:live (g.add H.bl.length l) (push H x) b):b=H.bl.length\/live g H b:=by
 obtain ⟨hd,y,hy,hl⟩:=h;rcases hd with hd|hd
 · right;have:=hdom b hd;rw [push_get,if_pos this] at hy;exact ⟨hd,y,hy,hl⟩
 · exact .inl hd
theorem add_old {l:Loc} {b n:Nat} (h:b≠n):(g.add n l).ρ b=g.ρ b:=by simp [Gx.add,h]
theorem add_new {l:Loc} {n:Nat}:(g.add n l).ρ n=l:=by simp [Gx.add]
theorem BlockRel.le {g g':Gx} {w w':World} {l:Loc} {x:AB} (hle:g.Le w g' w') (hR:liveB x=true->w'.heap[l.R]?=w.heap[l.R]?) (hz:liveB x=true->¬ g'.Z l.R) (h:BlockRel g w l x):BlockRel g' w' l x:=by
 cases x with
 |dead=>trivial
 |cells rows sz ty=>
  obtain ⟨h0,h1,h2,h3,cs,⟨T,fz,hR',h4,h6,_⟩,h5⟩:=h;exact ⟨h0.same (hR rfl),h1,h2,h3,cs,⟨T,fz,by rw [hR rfl];exact hR',h4,h6,hz rfl⟩,fun r row hr=>⟨(h5 r row hr).1,(h5 r row hr).2.mono hle⟩⟩
 |map es=>
  obtain ⟨ces,clock,hR',_,hl,h5⟩:=h;exact ⟨ces,clock,by rw [hR rfl];exact hR',hz rfl,hl,fun i k x e he hc=>⟨(h5 i k x e he hc).1,(h5 i k x e he hc).2.1.mono hle,(h5 i k x e he hc).2.2.mono hle⟩⟩
 |loop=>obtain ⟨r,hR',h1,h2,h3,h4,h5,h6,h7,h8⟩:=h;exact ⟨r,by rw [hR rfl];exact hR',hz rfl,h2,h3,h4,h5,h6,h7,fun t a ha=>(h8 t a ha).mono hle⟩
theorem new_block {w':World} {x:AB} {l:Loc} (hw:WRel G g w H) (hf:FRel g f w H F) (hsize:w.heap.size<=w'.heap.size)
   (hR:l.R=w.heap.size) (hlt:w.heap.size<w'.heap.size) (hoth:∀ R,R<w.heap.size->w'.heap[R]?=w.heap[R]?)
   (hx:g.Le w (g.add H.bl.length l) w'->BlockRel (g.add H.bl.length l) w' l x) (hio:w'.os=w.os/\w'.output=w.output:=by first|exact ⟨rfl,rfl⟩|assumption):
   WRel G (g.add H.bl.length l) w' (push H x)/\FRel (g.add H.bl.length l) f w' (push H x) F/\FExt g f w H F (g.add H.bl.length l) f w' (push H x) F:=by
 have hold:∀ b,g.D b->(g.add H.bl.length l).ρ b=g.ρ b:=fun b hb=>add_old (by have:=hw.dom b hb;omega)
 have hle:g.Le w (g.add H.bl.length l) w':=⟨fun b hb=>⟨.inl hb,hold b hb⟩,fun R h=>⟨h,hoth R (hw.zlt R h)⟩⟩;have hfp:∀ R,Fp (g.add H.bl.length l) (push H x) R->Fp g H R\/R=w.heap.size:=fun R ⟨b,hb,e⟩=>by
   rcases live_add hw.dom hb with rfl|hb
   · right;rw [<- e,add_new,hR]
   · left;exact ⟨b,hb,by rw [<- e,hold b hb.1]⟩
 refine ⟨⟨fun i row hg=>(hw.glob i row hg).mono hle,fun b hb=> ?_,fun b y hd hy=> ?_,fun b b' hb hb' hne=> ?_,fun R h=>Nat.lt_of_lt_of_le (hw.zlt R h) hsize⟩,
   ⟨hf.dom,fun i row hi hr=> ?_,hf.inj,fun i hi h=> ?_⟩,?_⟩
 · rcases hb with hb|rfl
   · have:=hw.dom b hb;simp [push];omega
   · simp [push]
 · rcases hd with hd|rfl
   · have hlt':=hw.dom b hd;rw [push_get,if_pos hlt'] at hy;rw [hold b hd];exact (hw.blk b y hd hy).le hle (fun hl=>hoth _ (hw.lt ⟨hd,y,hy,hl⟩)) (fun hl=>hw.notZ ⟨hd,y,hy,hl⟩)
   · rw [push_get,if_neg (by omega),if_pos rfl] at hy;simp at hy;subst hy;rw [add_new];exact hx hle
 · rcases live_add hw.dom hb with rfl|h1<;>rcases live_add hw.dom hb' with rfl|h2
   · exact absurd rfl hne
   · rw [add_new,hold _ h2.1,hR];have:=hw.lt h2;omega
   · rw [add_new,hold _ h1.1,hR];have:=hw.lt h1;omega
   · rw [hold _ h1.1,hold _ h2.1];exact hw.inj _ _ h1 h2 hne
 · obtain ⟨cs,⟨T,fz,hR',h4⟩,h5⟩:=hf.blk i row hi hr;exact ⟨cs,⟨T,fz,by rw [hoth _ (hf.lt hi)];exact hR',h4⟩,h5.mono hle⟩
 · rcases hfp _ h with h|h
   · exact hf.apart i hi h
   · have:=hf.lt hi;omega
 · refine ⟨fun b hb=>⟨.inl hb,hold b hb⟩,fun b hb=>hb.elim .inl (fun e=> .inr (by omega)),fun _ h=>h,fun _ h=> .inl h,
     fun R h=>(hfp R h).elim .inl (fun e=> .inr (by omega)),fun _ h=>⟨h,rfl⟩,fun _ h=> .inl h,fun _ h h'=>absurd h h',
     fun R hR _ _=>hoth R hR,hsize,by simp [push],Nat.le_refl _,rfl,fun b _ hl=> ?_,fun b _ hv=>hoth _ (hw.lt hv),fun _ _=>Iff.rfl,fun _ h h'=>absurd h h',fun i hi _=>hoth _ (hf.lt hi),hio⟩
   rw [push_get,if_pos hl]
theorem more_world {w':World} (hw:WRel G g w H) (hf:FRel g f w H F) (hsize:w.heap.size<=w'.heap.size) (hoth:∀ R,R<w.heap.size->w'.heap[R]?=w.heap[R]?) (hio:w'.os=w.os/\w'.output=w.output:=by first|exact ⟨rfl,rfl⟩|assumption):
   WRel G g w' H/\FRel g f w' H F/\FExt g f w H F g f w' H F:=by
 have hle:g.Le w g w':=⟨fun b hb=>⟨hb,rfl⟩,fun R h=>⟨h,hoth R (hw.zlt R h)⟩⟩;refine ⟨⟨fun i row hg=>(hw.glob i row hg).mono hle,hw.dom,fun b y hd hy=>(hw.blk b y hd hy).le hle (fun hl=>hoth _ (hw.lt ⟨hd,y,hy,hl⟩)) (fun hl=>hw.notZ ⟨hd,y,hy,hl⟩),hw.inj,fun R h=>Nat.lt_of_lt_of_le (hw.zlt R h) hsize⟩,
   ⟨hf.dom,fun i row hi hr=> ?_,hf.inj,hf.apart⟩,?_⟩
 · obtain ⟨cs,⟨T,fz,hR',h4⟩,h5⟩:=hf.blk i row hi hr;exact ⟨cs,⟨T,fz,by rw [hoth _ (hf.lt hi)];exact hR',h4⟩,h5.mono hle⟩
 · exact ⟨fun b hb=>⟨hb,rfl⟩,fun b hb=> .inl hb,fun _ h=>h,fun _ h=> .inl h,fun R h=> .inl h,fun i hi=>⟨hi,rfl⟩,
    fun i hi=> .inl hi,fun i hi hn=>absurd hi hn,fun R hR _ _=>hoth R hR,hsize,Nat.le_refl _,Nat.le_refl _,rfl,fun _ _ _=>rfl,fun b _ hv=>hoth _ (hw.lt hv),fun _ _=>Iff.rfl,fun _ h h'=>absurd h h',fun i hi _=>hoth _ (hf.lt hi),hio⟩
theorem new_box {w':World} {row:List AV} (hw:WRel G g w H) (hf:FRel g f w H F)
   (hlt:w.heap.size<w'.heap.size) (hoth:∀ R,R<w.heap.size->w'.heap[R]?=w.heap[R]?)
   (hx:g.Le w g w'->∃ cs,Row g w' w.heap.size row.length cs/\RowRel g w' cs 0 row) (hio:w'.os=w.os/\w'.output=w.output:=by first|exact ⟨rfl,rfl⟩|assumption):
   WRel G g w' H/\FRel g (f.add F.length w.heap.size) w' H (F++[row])/\FExt g f w H F g (f.add F.length w.heap.size) w' H (F++[row]):=by
 have hle:g.Le w g w':=⟨fun b hb=>⟨hb,rfl⟩,fun R h=>⟨h,hoth R (hw.zlt R h)⟩⟩;have hold:∀ i,f.E i->(f.add F.length w.heap.size).φ i=f.φ i:=fun i hi=>by have:=hf.dom i hi;simp [Fx.add,Nat.ne_of_lt this]
 refine ⟨⟨fun i row hg=>(hw.glob i row hg).mono hle,hw.dom,fun b y hd hy=>(hw.blk b y hd hy).le hle (fun hl=>hoth _ (hw.lt ⟨hd,y,hy,hl⟩)) (fun hl=>hw.notZ ⟨hd,y,hy,hl⟩),hw.inj,fun R h=>Nat.lt_trans (hw.zlt R h) hlt⟩,
   ⟨fun i hi=> ?_,fun i row' hi hr=> ?_,fun i j hi hj hne=> ?_,fun i hi h=> ?_⟩,?_⟩
 · rcases hi with hi|rfl
   · have:=hf.dom i hi;simp;omega
   · simp
 · rcases hi with hi|rfl
   · have hl:=hf.dom i hi;rw [List.getElem?_append_left hl] at hr;obtain ⟨cs,⟨T,fz,hR',h4⟩,h5⟩:=hf.blk i row' hi hr;rw [hold i hi];exact ⟨cs,⟨T,fz,by rw [hoth _ (hf.lt hi)];exact hR',h4⟩,h5.mono hle⟩
   · simp at hr;subst hr;have:(f.add F.length w.heap.size).φ F.length=w.heap.size:=by simp [Fx.add]
     rw [this];exact hx hle
 · have hnew:(f.add F.length w.heap.size).φ F.length=w.heap.size:=by simp [Fx.add]
   rcases hi with hi|rfl<;>rcases hj with hj|rfl
   · rw [hold i hi,hold j hj];exact hf.inj i j hi hj hne
   · rw [hold i hi,hnew];have:=hf.lt hi;omega
   · rw [hold j hj,hnew];have:=hf.lt hj;omega
   · exact absurd rfl hne
 · rcases hi with hi|rfl
   · rw [hold i hi] at h;exact hf.apart i hi h
   · obtain ⟨b,hb,e⟩:=h;have:=hw.lt hb;simp [Fx.add] at e;omega
 · exact ⟨fun b hb=>⟨hb,rfl⟩,fun b hb=> .inl hb,fun _ h=>h,fun _ h=> .inl h,fun R h=> .inl h,fun i hi=>⟨.inl hi,hold i hi⟩,
     fun i hi=>hi.elim .inl (fun e=> .inr (by omega)),fun i hi hn=>by rcases hi with hi|rfl;exact absurd hi hn;simp [Fx.add],
     fun R hR _ _=>hoth R hR,Nat.le_of_lt hlt,Nat.le_refl _,by simp,rfl,fun _ _ _=>rfl,fun b _ hv=>hoth _ (hw.lt hv),fun i hi=>⟨fun h=>h.elim id (fun e=>by have:=hf.dom i hi;omega),.inl⟩,fun i hi hn=> .inr (hi.resolve_left hn),fun i hi _=>hoth _ (hf.lt hi),hio⟩
end
end Go.V
namespace Go.V
open Go
def Did (G:Nat->Option (List AV)) (g:Gx) (f:Fx) (w:World) (s s':S) (v:SV) (r:Result Next):Prop:=
 ∃ rv w' g' f',(r= .ok (.value rv) w'\/(r= .ok .skip w'/\rv=undef))/\WRel G g' w' s'.H/\FRel g' f' w' s'.H s'.F/\FExt g f w s.H s.F g' f' w' s'.H s'.F/\SVRel g' f' w' v rv
section
variable {A:Par} {g:Gx} {f:Fx} {w:World} {s:S} {a:Act}
theorem did_same {v:SV} {rv:Value} {r:Result Next} (hw:WRel A.glob g w s.H) (hf:FRel g f w s.H s.F) (hr:r= .ok (.value rv) w) (hv:SVRel g f w v rv):Did A.glob g f w s s v r:=
 ⟨rv,w,g,f,.inl hr,hw,hf,.refl _ _ _ _ _,hv⟩
theorem constAV_sound {c:Value} {x:AV} (h:constAV c=some x):VRel g w x c:=by
 unfold constAV at h;split at h<;>simp at h<;>subst h
 · exact .bool _
 · exact .int _ _
 · exact .str _
 · exact .nilp
 · exact .nils
 · exact .nilm
 · exact .nilf
 · exact .nili
theorem operand_sound {x:Operand} {sv:SV} (h:operand A s.e x=some sv) (hw:WRel A.glob g w s.H) (he:EnvRel g f w s.e a.tmps):SVRel g f w sv (a.eval x):=by
 cases x with
 |tmp t=>simp [operand] at h;subst h;exact he t
 |const c=>
  simp only [operand,Option.map_eq_some_iff] at h;obtain ⟨x,hx,rfl⟩:=h;exact constAV_sound hx
 |global gi=>
  simp only [operand,Option.map_eq_some_iff] at h;obtain ⟨row,hr,rfl⟩:=h;exact (hw.glob gi row hr).v
 |func fid=>
  simp [operand] at h;subst h;exact .fn fid [] [] rfl (fun i x v h=>by simp at h)
theorem val_sound {x:Operand} {av:AV} (h:val A s.e x=some av) (hw:WRel A.glob g w s.H) (he:EnvRel g f w s.e a.tmps):VRel g w av (a.eval x):=by
 unfold val at h;split at h
 · rename_i av' ho;simp at h;subst h;exact operand_sound ho hw he
 · simp at h
theorem vals_sound:∀ {xs:List Operand} {l:List AV},vals A s.e xs=some l->WRel A.glob g w s.H->EnvRel g f w s.e a.tmps->
  l.length=xs.length/\∀ (i:Nat) (x:AV) (v:Value),l[i]?=some x->(xs.map a.eval)[i]?=some v->VRel g w x v
 |[],l,h,_,_=>by simp [vals] at h;subst h;exact ⟨rfl,fun i x v h=>by simp at h⟩
 |x::xs,l,h,hw,he=>by
  simp only [vals,Option.bind_eq_some_iff] at h;obtain ⟨av,hav,l',hl',h⟩:=h;simp at h;subst h;obtain ⟨h1,h2⟩:=vals_sound hl' hw he;refine ⟨by simp [h1],fun i y v hy hv=> ?_⟩;cases i with
  |zero=>simp at hy hv;subst hy;subst hv;exact val_sound hav hw he
  |succ i=>exact h2 i y v (by simpa using hy) (by simpa using hv)
theorem cells_sound {x:AV} {cs:List AV} {v:Value} (h:x.cells?=some cs) (hx:VRel g w x v):
  v.cells.size=cs.length/\(∀ u∈v.cells.toList,u.oneCell'=true)/\∀ (i:Nat) (y:AV) (u:Value),cs[i]?=some y->v.cells.toList[i]?=some u->VRel g w y u:=by
 have one:∀ {y:AV} {u:Value},VRel g w y u->u.oneCell'=true->u.cells= #[u]->cs=[y]->
   u.cells.size=cs.length/\(∀ z∈u.cells.toList,z.oneCell'=true)/\∀ (i:Nat) (y:AV) (z:Value),cs[i]?=some y->u.cells.toList[i]?=some z->VRel g w y z:=by
  intro y u hy h1 hc hcs;subst hcs;rw [hc];refine ⟨rfl,fun z hz=>by simp at hz;subst hz;exact h1,fun i y' z hy' hz=> ?_⟩;cases i with
  |zero=>simp at hy' hz;subst hy';subst hz;exact hy
  |succ i=>simp at hy'
 cases hx
 case agg l vs hl h1 hr=>
  simp [AV.cells?] at h;subst h;refine ⟨by simp [Value.cells,hl],fun u hu=>h1 u (by simpa [Value.cells] using hu),fun i y u hy hu=>hr i y u hy (by simpa [Value.cells] using hu)⟩
 case junk=>simp [AV.cells?] at h
 case tup=>simp [AV.cells?] at h
 case lits sz a=>
  simp only [AV.cells?,Option.some.injEq] at h;exact one (.lits sz a) rfl rfl h.symm
 all_goals
  simp only [AV.cells?,Option.some.injEq] at h;refine one ?_ rfl rfl h.symm;constructor<;>assumption
theorem TyOK.setRow {w:World} {l:Loc} {ty:Option (TypeId×Nat)} (h:TyOK w l ty) (cs':Array Value):TyOK (w.setRow l.R cs') l ty:=
 h.of fun cs T fz hR=>⟨cs',fz,setRow_heap w l.R cs cs' T fz hR⟩
theorem cellsAt_box (hf:FRel g f w s.H s.F) {i:Nat} {row:List AV} (hi:f.E i) (hr:s.F[i]?=some row):CellsAt g w (f.φ i) 0 row:=by
 obtain ⟨cs,⟨T,fz,hR,_⟩,h5⟩:=hf.blk i row hi hr;exact .of_row hR h5
theorem cellsAt_block (hw:WRel A.glob g w s.H) {b r:Nat} {row:List AV} (hb:g.D b) (hr:rowAt s.H b r=some row):CellsAt g w (g.ρ b).R ((g.ρ b).o+r * (g.ρ b).sz) row:=by
 unfold rowAt at hr;split at hr
 · rename_i rows sz ty hx;obtain ⟨_,_,hsz,_,cs,⟨T,fz,hR,_⟩,h5⟩:=hw.blk b _ hb hx;rw [hsz];exact .of_row hR (h5 r row hr).2
 · simp at hr
theorem cellsAt_eptr {row:List AV} {p:Addr} (h:VRel g w (.eptr row) (.pointer (some p))):CellsAt g w p.block p.off row/\p.spot=none:=by
 cases h with
 |eptr row a vs hs hz hc h1 hr=>
  exact ⟨fun j x hx=>⟨vs j,hc j (by rcases Nat.lt_or_ge j row.length with h|h;exact h;simp [List.getElem?_eq_none h] at hx),h1 j (by rcases Nat.lt_or_ge j row.length with h|h;exact h;simp [List.getElem?_eq_none h] at hx),hr j x hx⟩,hs⟩
theorem load_ptr {t:TypeId} {p:SV} {x:AV} {pv:Value} (h:load A s t p=some x) (hw:WRel A.glob g w s.H) (hf:FRel g f w s.H s.F) (hp:SVRel g f w p pv):
   ∃ ad v,pv= .pointer (some ad)/\(loadVar t ad).run A.P w= .ok v w/\VRel g w x v:=by
 unfold load at h;split at h
 · rename_i i c;simp only [Option.bind_eq_some_iff] at h;obtain ⟨row,hr,hx⟩:=h;obtain ⟨hi,rfl⟩:=hp;obtain ⟨v,h1,h2⟩:=run_loadVar hx (cellsAt_box hf hi hr);rw [Nat.zero_add] at h1;exact ⟨_,v,rfl,h1,h2⟩
 · rename_i b r c;simp only [Option.bind_eq_some_iff] at h;obtain ⟨row,hr,hx⟩:=h;cases hp with
   |ptr _ _ _ hb=>
    obtain ⟨v,h1,h2⟩:=run_loadVar hx (cellsAt_block hw hb hr);exact ⟨_,v,rfl,h1,h2⟩
 · rename_i row;have hp':VRel g w (.eptr row) pv:=hp;cases hp' with
   |eptr _ a vs hs hz hc h1 hr=>
    obtain ⟨hca,hsp⟩:=cellsAt_eptr (.eptr row a vs hs hz hc h1 hr);obtain ⟨v,h1,h2⟩:=run_loadVar h hca;rw [Nat.add_zero,<- spot_none hsp] at h1;exact ⟨_,v,rfl,h1,h2⟩
 · simp at h
theorem load_sound {t:TypeId} {p:SV} {x:AV} {pv:Value} (h:load A s t p=some x) (hw:WRel A.glob g w s.H) (hf:FRel g f w s.H s.F) (hp:SVRel g f w p pv):
  ∃ v,(Instr.loadAt t pv).run A.P w= .ok v w/\VRel g w x v:=by
 obtain ⟨ad,v,rfl,h1,h2⟩:=load_ptr h hw hf hp;exact ⟨v,by simp [Instr.loadAt,Instr.sureAddr,h1],h2⟩
theorem splice_rel {g:Gx} {w:World} {cs:Array Value} {base c:Nat} {row row' new:List AV} {vs:List Value} (h:splice row c new=some row') (hl:vs.length=new.length)
  (hr:RowRel g w cs base row) (h1:∀ u∈vs,u.oneCell'=true) (hv:∀ (i:Nat) (y:AV) (u:Value),new[i]?=some y->vs[i]?=some u->VRel g w y u) (hcs:base+row.length<=cs.size):
  row'.length=row.length/\RowRel g w (cs.toList.take (base+c)++vs++cs.toList.drop (base+c+vs.length)).toArray base row':=by
 unfold splice at h;split at h
 case isFalse=>simp at h
 case isTrue hle=>
  simp at h;subst h;refine ⟨by simp;omega,fun j x hx=> ?_⟩;simp only [List.getElem?_toArray];have htl:(cs.toList.take (base+c)).length=base+c:=by simp;omega
  by_cases hj:j<c
  · rw [List.getElem?_append_left (by simp;omega),List.getElem?_take,if_pos hj] at hx;obtain ⟨v,e1,e2,e3⟩:=hr j x hx;refine ⟨v,?_,e2,e3⟩;rw [List.append_assoc,List.getElem?_append_left (by omega),List.getElem?_take,if_pos (by omega)]
    simpa using e1
  · rw [List.getElem?_append_right (by simp;omega)] at hx;have hmin:min c row.length=c:=by omega
    simp only [List.length_take,hmin] at hx;rw [List.append_assoc,List.getElem?_append_right (by omega),htl];by_cases hj2:j-c<new.length
    · rw [List.getElem?_append_left hj2] at hx;have hlt:j-c<vs.length:=by omega
      refine ⟨vs[j-c],?_,h1 _ (List.getElem_mem hlt),hv (j-c) x _ hx (List.getElem?_eq_getElem hlt)⟩;rw [List.getElem?_append_left (by omega),show base+j-(base+c)=j-c by omega,List.getElem?_eq_getElem hlt]
    · rw [List.getElem?_append_right (by omega),List.getElem?_drop,show c+new.length+(j-c-new.length)=j by omega] at hx;obtain ⟨v,e1,e2,e3⟩:=hr j x hx;refine ⟨v,?_,e2,e3⟩;rw [List.getElem?_append_right (by omega),List.getElem?_drop,show base+c+vs.length+(base+j-(base+c)-vs.length)=base+j by omega]
      simpa using e1
theorem splice_other {g:Gx} {w:World} {cs:Array Value} {base base' lo:Nat} {row:List AV} {vs:List Value} (hr:RowRel g w cs base' row) (hlo:base<=lo) (hhi:lo+vs.length<=base+row.length) (hsep:base'+row.length<=base\/base+row.length<=base') (hcs:base+row.length<=cs.size):
   RowRel g w (cs.toList.take lo++vs++cs.toList.drop (lo+vs.length)).toArray base' row:=by
 intro j x hx;have hj:j<row.length:=by rcases Nat.lt_or_ge j row.length with h|h;exact h;simp [List.getElem?_eq_none h] at hx
 obtain ⟨v,e1,e2,e3⟩:=hr j x hx;refine ⟨v,?_,e2,e3⟩;have htl:(cs.toList.take lo).length=lo:=by simp;omega
 simp only [List.getElem?_toArray,List.append_assoc];rcases hsep with h|h
 · rw [List.getElem?_append_left (by omega),List.getElem?_take,if_pos (by omega)];simpa using e1
 · rw [List.getElem?_append_right (by omega),htl,List.getElem?_append_right (by omega),List.getElem?_drop,show lo+vs.length+(base'+j-lo-vs.length)=base'+j by omega]
   simpa using e1
theorem Row.set {g:Gx} {w:World} {R e:Nat} {cs cs':Array Value} (h:Row g w R e cs) (hs:cs'.size=e):Row g (w.setRow R cs') R e cs':=by
 obtain ⟨T,fz,hR,hsz,hfz,hz⟩:=h;exact ⟨T,fz,setRow_heap w R cs cs' T fz hR,hs,hfz,hz⟩
theorem store_sound {t:TypeId} {p:SV} {x:AV} {pv xv:Value} {s':S} (h:store A s t p x=some s') (hw:WRel A.glob g w s.H) (hf:FRel g f w s.H s.F) (hp:SVRel g f w p pv) (hx:VRel g w x xv) (hWr:∀ i c,p= .loc i c->f.W i):
  ∃ w',(Instr.storeAt t pv xv).run A.P w= .ok () w'/\WRel A.glob g w' s'.H/\FRel g f w' s'.H s'.F/\FExt g f w s.H s.F g f w' s'.H s'.F/\s'.e=s.e:=by
 unfold store at h;simp only [Option.bind_eq_some_iff] at h;obtain ⟨cs,hcs,n,hn,h⟩:=h;split at h
 case isFalse=>simp at h
 case isTrue hlen=>
  obtain ⟨hsz,h1,hrel⟩:=cells_sound hcs hx;have hvl:xv.cells.toList.length=cs.length:=by simpa using hsz
  have hrun:∀ (R o:Nat),(Instr.storeAt t (.pointer (some ⟨R,o,none⟩)) xv).run A.P w=(storeCells ⟨R,o,none⟩ xv.cells.toList).run A.P w:=by
    intro R o;simp [Instr.storeAt,Instr.sureAddr,storeVar,run_size hn,hsz,hlen]
  split at h
  · rename_i i c;simp only [Option.bind_eq_some_iff] at h;obtain ⟨row,hr,row',hsp,h⟩:=h;simp at h;subst h;obtain ⟨hi,rfl⟩:=hp;obtain ⟨rcs,hRow,hrr⟩:=hf.blk i row hi hr;obtain ⟨T,fz,hR,hce,hfz,hz⟩:=hRow;have hfit:c+cs.length<=row.length:=by unfold splice at hsp;split at hsp;assumption;simp at hsp
    obtain ⟨hl',hrr'⟩:=splice_rel hsp hvl hrr h1 hrel (by omega);rw [Nat.zero_add] at hrr';have hst:=run_storeCells_gen A.P (f.φ i) c T fz xv.cells.toList 0 rcs w hR (by omega) (fun j hj=>by rw [Nat.add_zero];exact hfz _ (by omega)) h1;simp only [Nat.add_zero] at hst;refine ⟨_,(hrun _ _).trans hst,?_⟩;have hns:(rcs.toList.take c++xv.cells.toList++rcs.toList.drop (c+xv.cells.toList.length)).toArray.size=row'.length:=by
     simp only [List.size_toArray,List.length_append,List.length_take,List.length_drop,Array.length_toList] at *;omega
    obtain ⟨q1,q2,q3⟩:=write_box (i:=i) (row:=row') (w':=w.setRow (f.φ i) (rcs.toList.take c++xv.cells.toList++rcs.toList.drop (c+xv.cells.toList.length)).toArray) hw hf hi (hWr i c rfl) (setRow_size _ _ _) (fun R hne=>setRow_other _ _ _ _ hne)
     (fun hle=>⟨_,by rw [hl'];exact Row.set (show Row g w (f.φ i) row.length rcs from ⟨T,fz,hR,hce,hfz,hz⟩) (by rw [hns,hl']),hrr'.mono hle⟩)
    exact ⟨q1,q2,q3,rfl⟩
  · rename_i b r c;split at h
    case h_2=>simp at h
    case h_1 rows sz ty hb=>
    split at h
    case isFalse=>simp at h
    case isTrue hwm=>
     simp only [Option.bind_eq_some_iff] at h;obtain ⟨row,hr,row',hsp,h⟩:=h;simp at h;subst h;cases hp with
     |ptr _ _ _ hD=>
     have hlive:live g s.H b:=⟨hD,_,hb,rfl⟩;obtain ⟨hty,hpos,hsz',hend,rcs,⟨T,fz,hR,hce,hfz,hz⟩,hrows⟩:=hw.blk b _ hD hb;obtain ⟨hrl,hrr⟩:=hrows r row hr;have hrlt:r<rows.length:=by rcases Nat.lt_or_ge r rows.length with h|h;exact h;simp [List.getElem?_eq_none h] at hr
     have hmul:r * sz+sz<=rows.length * sz:=by rw [<- Nat.succ_mul];exact Nat.mul_le_mul_right _ hrlt
     have hfit:c+cs.length<=row.length:=by unfold splice at hsp;split at hsp;assumption;simp at hsp
     obtain ⟨hl',hrr'⟩:=splice_rel hsp hvl hrr h1 hrel (by omega);rw [hsz'] at *
     have hst:=run_storeCells_gen A.P (g.ρ b).R ((g.ρ b).o+r * sz+c) T fz xv.cells.toList 0 rcs w hR (by omega) (fun j hj=>hfz _ (by omega)) h1;simp only [Nat.add_zero] at hst;refine ⟨_,(hrun _ _).trans hst,?_⟩;obtain ⟨q1,q2,q3⟩:=write_block (b:=b) (x:= .cells (rows.set r row') sz ty) (w':=w.setRow (g.ρ b).R (rcs.toList.take ((g.ρ b).o+r * sz+c)++xv.cells.toList++rcs.toList.drop ((g.ρ b).o+r * sz+c+xv.cells.toList.length)).toArray) hw hf hlive hwm (setRow_size _ _ _) (fun R hne=>setRow_other _ _ _ _ hne)
      (fun hle=>⟨hty.setRow _,hpos,(hw.blk b _ hD hb).2.2.1,by simpa using hend,_,Row.set (show Row g w (g.ρ b).R (g.ρ b).e rcs from ⟨T,fz,hR,hce,hfz,hz⟩) (by simp only [List.size_toArray,List.length_append,List.length_take,List.length_drop,Array.length_toList] at *;omega),fun r' row2 hr2=>by
       rw [List.getElem?_set] at hr2;split at hr2
       · rename_i e;subst e;simp [hrlt] at hr2;subst hr2;exact ⟨by rw [hl'];exact hrl,hrr'.mono hle⟩
       · rename_i hne;obtain ⟨hl2,hrr2⟩:=hrows r' row2 hr2;refine ⟨hl2,RowRel.mono hle (splice_other (base:=(g.ρ b).o+r * sz) hrr2 (by omega) (by omega) ?_ (by omega))⟩;rcases Nat.lt_or_gt_of_ne hne with h|h
         · right;have:r * sz+sz<=r' * sz:=by rw [<- Nat.succ_mul];exact Nat.mul_le_mul_right _ h
           omega
         · left;have:r' * sz+sz<=r * sz:=by rw [<- Nat.succ_mul];exact Nat.mul_le_mul_right _ h
           omega⟩)
     exact ⟨q1,q2,q3,rfl⟩
  · simp at h
end
end Go.V
namespace Go.V
open Go
section
variable {A:Par} {g:Gx} {f:Fx} {w:World} {s:S} {a:Act}
theorem constAV_one {c:Value} {x:AV} (h:constAV c=some x):c.oneCell'=true:=by
 unfold constAV at h;split at h<;>simp at h<;>rfl
theorem constCells_sound:∀ {vs:List Value} {cs:List AV},constCells vs=some cs->vs.length=cs.length/\(∀ u∈vs,u.oneCell'=true)/\∀ (i:Nat) (y:AV) (u:Value),cs[i]?=some y->vs[i]?=some u->VRel g w y u
 |[],cs,h=>by simp [constCells] at h;subst h;exact ⟨rfl,by simp,fun i y u h=>by simp at h⟩
 |v::vs,cs,h=>by
  simp only [constCells,Option.bind_eq_some_iff] at h;obtain ⟨x,hx,xs,hxs,h⟩:=h;simp at h;subst h;obtain ⟨h1,h2,h3⟩:=constCells_sound hxs;refine ⟨by simp [h1],fun u hu=> ?_,fun i y u hy hu=> ?_⟩
  · simp at hu;rcases hu with rfl|hu
    · exact constAV_one hx
    · exact h2 u hu
  · cases i with
    |zero=>simp at hy hu;subst hy;subst hu;exact constAV_sound hx
    |succ i=>exact h3 i y u (by simpa using hy) (by simpa using hu)
theorem zero_sound {t:TypeId} {z:List AV} (h:zero A t=some z):∃ v,(zeroValue t).run A.P w= .ok v w/\v.cells.size=z.length/\(∀ u∈v.cells.toList,u.oneCell'=true)/\
  ∀ (i:Nat) (y:AV) (u:Value),z[i]?=some y->v.cells.toList[i]?=some u->VRel g w y u:=by
 unfold zero at h;cases hi:A.P.info? t with
 |none=>simp [hi] at h
 |some i=>
  cases hz:i.zero with
  |none=>simp [hi,hz] at h
  |some v=>
   simp [hi,hz] at h;obtain ⟨h1,h2,h3⟩:=constCells_sound (g:=g) (w:=w) h;exact ⟨v,by simp [zeroValue,typeInfo,hi,hz],by simpa using h1,h2,h3⟩
theorem rowRel_new {g:Gx} {w:World} {cs:List AV} {vs:Array Value} (hl:vs.size=cs.length) (h1:∀ u∈vs.toList,u.oneCell'=true)
  (hr:∀ (i:Nat) (y:AV) (u:Value),cs[i]?=some y->vs.toList[i]?=some u->VRel g w y u):RowRel g w vs 0 cs:=by
 intro c x hx;have hc:c<cs.length:=by rcases Nat.lt_or_ge c cs.length with h|h;exact h;simp [List.getElem?_eq_none h] at hx
 have hv:vs.toList[c]?=some vs[c]:=by simp
 exact ⟨vs[c],by rw [Nat.zero_add];simp,h1 _ (List.mem_of_getElem? hv),hr c x _ hx hv⟩
theorem box_sound {cs:List AV} {v:Value} {t:TypeId} {isLoc:Bool} (hw:WRel A.glob g w s.H) (hf:FRel g f w s.H s.F) (hl:v.cells.size=cs.length) (h1:∀ u∈v.cells.toList,u.oneCell'=true)
  (hr:∀ (i:Nat) (y:AV) (u:Value),cs[i]?=some y->v.cells.toList[i]?=some u->VRel g w y u) (hpos:0<cs.length\/isLoc=true) {r:Result Next}
  (hrun:r= .ok (.value (.pointer (some ⟨w.heap.size,0,none⟩))) (w.alloc (.cells v.cells t))):
  Did A.glob g f w s (box s t isLoc cs).2 (box s t isLoc cs).1 r:=by
 have hlt:w.heap.size<(w.alloc (.cells v.cells t)).heap.size:=by show w.heap.size<(w.heap.push _).size;simp
 have hoth:∀ R,R<w.heap.size->(w.alloc (.cells v.cells t)).heap[R]?=w.heap[R]?:=fun R hR=>heap_alloc_old w _ R hR
 have hzn:¬ g.Z w.heap.size:=fun hz=>Nat.lt_irrefl _ (hw.zlt _ hz)
 cases isLoc with
 |true=>
  have hx:g.Le w g (w.alloc (.cells v.cells t))->∃ cs',Row g (w.alloc (.cells v.cells t)) w.heap.size cs.length cs'/\RowRel g (w.alloc (.cells v.cells t)) cs' 0 cs:=fun hle=>
   ⟨v.cells,⟨t,(0,0),heap_alloc_new w _,hl,fun off _=>by simp,hzn⟩,(rowRel_new hl h1 hr).mono hle⟩
  obtain ⟨q1,q2,q3⟩:=new_box hw hf hlt hoth hx;refine ⟨_,_,g,_,.inl hrun,q1,q2,q3,?_⟩;exact ⟨.inr rfl,by simp [Fx.add]⟩
 |false=>
  have hp:0<cs.length:=hpos.resolve_right (by simp);have hx:g.Le w (g.add s.H.bl.length ⟨w.heap.size,0,cs.length,cs.length⟩) (w.alloc (.cells v.cells t))->
    BlockRel (g.add s.H.bl.length ⟨w.heap.size,0,cs.length,cs.length⟩) (w.alloc (.cells v.cells t)) ⟨w.heap.size,0,cs.length,cs.length⟩ (.cells [cs] cs.length (some (t,2))):=fun hle=>
   ⟨⟨⟨_,_,heap_alloc_new w _⟩,fun _=>rfl,fun _=>rfl⟩,hp,rfl,by simp,v.cells,⟨t,(0,0),heap_alloc_new w _,hl,fun off _=>by simp,hzn⟩,fun r row hrow=>by
    cases r with
    |zero=>simp at hrow;subst hrow;exact ⟨rfl,by simpa using (rowRel_new hl h1 hr).mono hle⟩
    |succ r=>simp at hrow⟩
  obtain ⟨q1,q2,q3⟩:=new_block (l:=⟨w.heap.size,0,cs.length,cs.length⟩) hw hf (Nat.le_of_lt hlt) rfl hlt hoth hx;refine ⟨_,_,_,f,.inl hrun,q1,q2,q3,?_⟩;have:=VRel.ptr (g:=g.add s.H.bl.length ⟨w.heap.size,0,cs.length,cs.length⟩) (w:=w.alloc (.cells v.cells t)) s.H.bl.length 0 0 (.inr rfl)
  simpa [SVRel,box,add_new] using this
theorem addCell_sound {n:Nat} {p q:SV} {pv:Value} (h:addCell n p=some q) (hp:SVRel g f w p pv):∃ ad,pv= .pointer (some ad)/\SVRel g f w q (.pointer (some (ad.add n))):=by
 unfold addCell at h;split at h<;>simp at h<;>subst h
 · obtain ⟨hi,rfl⟩:=hp;exact ⟨_,rfl,hi,by rw [add_none]⟩
 · rename_i b r c;cases hp with
   |ptr _ _ _ hb=>
    refine ⟨_,rfl,?_⟩;have:=VRel.ptr (g:=g) (w:=w) b r (c+n) hb
    simpa [SVRel,add_none,Nat.add_assoc] using this
 · rename_i row;have hp':VRel g w (.eptr row) pv:=hp;cases hp' with
   |eptr _ ad vs hs hz hc h1 hr=>
    refine ⟨ad,rfl,?_⟩;rw [spot_none hs,add_none];refine VRel.eptr (row.drop n) ⟨ad.block,ad.off+n,none⟩ (fun c=>vs (n+c)) rfl hz (fun c hc'=> ?_) (fun c hc'=> ?_) (fun c x hx=> ?_)
    · have:=hc (n+c) (by simp at hc';omega)
      simpa [Nat.add_assoc] using this
    · exact h1 (n+c) (by simp at hc';omega)
    · rw [List.getElem?_drop] at hx;exact hr (n+c) x hx
theorem field_info {t:TypeId} {i:Nat} {fd:Field} (h:field? A t i=some fd):∃ fs,A.P.underlying t=some (.struct fs)/\fs[i]?=some fd:=by
 unfold field? at h;split at h
 · rename_i fs hu;exact ⟨fs,hu,h⟩
 · simp at h
theorem fieldAddr_sound {t:TypeId} {i:Nat} {fd:Field} {p q:SV} {pv:Value} (hfd:field? A t i=some fd) (hsz:size A fd.type≠some 0) (hsome:(size A fd.type).isSome=true) (h:addCell fd.offset p=some q) (hp:SVRel g f w p pv):
  ∃ v,(Instr.fieldAt t pv i).run A.P w= .ok v w/\SVRel g f w q v:=by
 obtain ⟨fs,hu,hi⟩:=field_info hfd;obtain ⟨ad,rfl,hq⟩:=addCell_sound h hp;refine ⟨_,?_,hq⟩;cases hn:size A fd.type with
 |none=>simp [hn] at hsome
 |some n=>
  have hne:n≠0:=fun e=>hsz (by rw [hn,e])
  simp [Instr.fieldAt,run_underlying hu,hi,Instr.sureAddr,fieldPlace,run_size hn,hne]
theorem inRange_iff {i:Int} {n:Nat} (h:inRange i n=true):0<=i/\i<(n:Int):=by simpa [inRange] using h
theorem szOf_eq (hw:WRel A.glob g w s.H) {b n:Nat} (hd:g.D b) (h:some n=szOf s.H b):(g.ρ b).sz=n/\0<n:=by
 unfold szOf at h;split at h
 · rename_i rows sz ty hb;simp at h;subst h;obtain ⟨_,h1,h2,_⟩:=hw.blk b _ hd hb;exact ⟨h2,h1⟩
 · simp at h
theorem mul_add_lt {i n sz c:Nat} (hi:i<n) (hc:c<sz):i * sz+c<n * sz:=by
 have:i * sz+sz<=n * sz:=by rw [<- Nat.succ_mul];exact Nat.mul_le_mul_right _ hi
 omega
theorem indexAddr_sound {t:TypeId} {p q:SV} {pv:Value} {k:IntKind} {n:Int} (h:indexAddr A s.H t p n=some q) (hw:WRel A.glob g w s.H) (hp:SVRel g f w p pv):
   ∃ v,(Instr.indexAt t pv (.int k n)).run A.P w= .ok v w/\SVRel g f w q v:=by
 unfold indexAddr at h;split at h
 · rename_i len e hu;split at h
   case isFalse=>simp at h
   case isTrue hr=>
     obtain ⟨h0,h1⟩:=inRange_iff hr;simp only [Option.bind_eq_some_iff] at h;obtain ⟨sz,hsz,h⟩:=h;obtain ⟨ad,rfl,hq⟩:=addCell_sound h hp;refine ⟨_,?_,hq⟩;simp [Instr.indexAt,asIntOf,run_underlying hu,Instr.sureAddr,h0,h1,run_size hsz]
 · rename_i e hu;split at h
   · rename_i b r len;split at h
     case isFalse=>simp at h
     case isTrue hr=>
      simp only [Option.bind_eq_some_iff] at h;obtain ⟨m,hm,h⟩:=h;split at h
      case isFalse=>simp at h
      case isTrue hn=>
      simp at h;subst h;obtain ⟨h0,h1⟩:=inRange_iff hr;have hp':VRel g w (.sl b r len) pv:=hp;cases hp' with
      |sl _ _ _ cap hd hle hend=>
       obtain ⟨e1,e2⟩:=szOf_eq hw hd hm.symm;refine ⟨_,?_,VRel.ptr b (r+n.toNat) 0 hd⟩;have:(r+n.toNat) * m=r * m+n.toNat * m:=Nat.add_mul _ _ _;simp [Instr.indexAt,asIntOf,run_underlying hu,h0,h1,run_size hn,add_none,e1,this,Nat.add_assoc]
      |slz=>omega
   · rename_i sz rows;split at h
     case isFalse=>simp at h
     case isTrue hr=>
      split at h
      case isFalse=>simp at h
      case isTrue hsz=>
      obtain ⟨h0,h1⟩:=inRange_iff hr;simp only [Option.map_eq_some_iff] at h;obtain ⟨row,hrow,rfl⟩:=h;have hp':VRel g w (.lit sz rows) pv:=hp;cases hp' with
      |lits _ ad=>simp at h1;omega
      |lit _ ad cap _ vs hs hc hz hl hcell h1c hrel=>
       have hi:n.toNat<rows.length:=by omega
       have hrl:=hl _ _ hrow;refine ⟨.pointer (some (ad.add (n.toNat * sz))),?_,?_⟩
       · simp [Instr.indexAt,asIntOf,run_underlying hu,h0,h1,run_size hsz]
       · rw [spot_none hs,add_none];refine VRel.eptr row ⟨ad.block,ad.off+n.toNat * sz,none⟩ (vs n.toNat) rfl (hz (by intro e;subst e;simp at hi)) (fun c hc'=>hcell _ c hi (by omega)) (fun c hc'=>h1c _ c hi (by omega)) (fun c x hx=>hrel _ row c x hrow hx)
   · simp at h
 · simp at h
end
end Go.V
namespace Go.V
open Go
theorem foldl_set (off:Nat):∀ (l:List Value) (st:Nat) (cells:Array Value),
  ((l.zipIdx st).foldl (fun cs p=>cs.setIfInBounds (off+p.2) p.1) cells).size=cells.size/\
  ∀ k,((l.zipIdx st).foldl (fun cs p=>cs.setIfInBounds (off+p.2) p.1) cells)[k]?=if off+st<=k/\k<off+st+l.length/\k<cells.size then l[k-(off+st)]? else cells[k]?
 |[],st,cells=>⟨rfl,fun k=>by rw [if_neg (by simp;omega)];rfl⟩
 |v::l,st,cells=>by
  obtain ⟨h1,h2⟩:=foldl_set off l (st+1) (cells.setIfInBounds (off+st) v);simp only [List.zipIdx_cons,List.foldl_cons];refine ⟨by simpa using h1,fun k=> ?_⟩;rw [h2 k];simp only [Array.size_setIfInBounds,Array.getElem?_setIfInBounds,List.length_cons];by_cases hk:off+st=k
  · subst hk;rw [if_neg (by omega)];by_cases hs:off+st<cells.size
    · simp [hs]
    · rw [if_pos rfl];simp [hs,Array.getElem?_eq_none (Nat.le_of_not_lt hs)]
  · rw [if_neg hk];by_cases hr:off+(st+1)<=k/\k<off+(st+1)+l.length/\k<cells.size
    · rw [if_pos hr,if_pos (by omega),show k-(off+st)=(k-(off+(st+1)))+1 by omega,List.getElem?_cons_succ]
    · rw [if_neg hr,if_neg (by omega)]
theorem fold_splice (off:Nat) (vs cells:Array Value) (h:off+vs.size<=cells.size):
   vs.zipIdx.foldl (fun cs (c,j)=>cs.setIfInBounds (off+j) c) cells=(cells.toList.take off++vs.toList++cells.toList.drop (off+vs.size)).toArray:=by
 have e:vs.zipIdx.foldl (fun cs (c,j)=>cs.setIfInBounds (off+j) c) cells=(vs.toList.zipIdx 0).foldl (fun cs p=>cs.setIfInBounds (off+p.2) p.1) cells:=by
   rw [<- Array.foldl_toList,Array.toList_zipIdx]
 rw [e];obtain ⟨h1,h2⟩:=foldl_set off vs.toList 0 cells;apply Array.ext_getElem?;intro k;rw [h2 k];simp only [List.getElem?_toArray,List.append_assoc,Nat.add_zero,Array.length_toList];by_cases hk:k<off
 · rw [if_neg (by omega),List.getElem?_append_left (by simp;omega),List.getElem?_take,if_pos hk];simp
 · have ht:(cells.toList.take off).length=off:=by simp;omega
   rw [List.getElem?_append_right (by omega),ht];by_cases hk2:k<off+vs.size
   · rw [if_pos (by omega),List.getElem?_append_left (by simp;omega)]
   · rw [if_neg (by omega),List.getElem?_append_right (by simp;omega),List.getElem?_drop,Array.length_toList,show off+vs.size+(k-off-vs.size)=k by omega];simp
section
variable {A:Par} {g:Gx} {f:Fx} {w:World} {s:S} {a:Act}
def AggR (g:Gx) (w:World) (cs:List AV) (vs:Array Value):Prop:=vs.size=cs.length/\RowRel g w vs 0 cs
theorem AggR.agg {cs:List AV} {vs:Array Value} (h:AggR g w cs vs):VRel g w (.agg cs) (.agg vs):=by
 have hv:vs=vs.toList.toArray:=by simp
 rw [hv];refine .agg cs vs.toList (by simpa using h.1) (fun u hu=> ?_) (fun i x v hx hi=> ?_)
 · obtain ⟨i,hi⟩:=List.getElem?_of_mem hu;have hlt:i<cs.length:=by have:=h.1;rcases Nat.lt_or_ge i vs.toList.length with h'|h';simp at h';omega;simp [List.getElem?_eq_none h'] at hi
   obtain ⟨v,h1,h2,_⟩:=h.2 i cs[i] (List.getElem?_eq_getElem hlt);simp at h1 hi;rw [h1] at hi;simp at hi;subst hi;exact h2
 · obtain ⟨v',h1,_,h3⟩:=h.2 i x hx;simp at h1 hi;rw [h1] at hi;simp at hi;subst hi;exact h3
theorem agg_aggR {cs:List AV} {v:Value} (h:VRel g w (.agg cs) v):∃ vs,v= .agg vs/\AggR g w cs vs:=by
 cases h with
 |agg _ vs hl h1 hr=>exact ⟨_,rfl,by simpa using hl,rowRel_new (by simpa using hl) (by simpa using h1) (by simpa using hr)⟩
theorem zero_aggR {t:TypeId} {z:List AV} (h:zero A t=some z):∃ v,(zeroValue t).run A.P w= .ok v w/\AggR g w z v.cells:=by
 obtain ⟨v,h1,h2,h3,h4⟩:=zero_sound (g:=g) (w:=w) h;exact ⟨v,h1,h2,rowRel_new h2 h3 h4⟩
theorem part_sound {t:TypeId} {cs:List AV} {vs:Array Value} {off:Nat} {x:AV} (h:part A t cs off=some x) (hr:AggR g w cs vs):∃ v,(Go.part t vs off).run A.P w= .ok v w/\VRel g w x v:=by
 unfold part at h;cases hagg:isAgg A t with
 |none=>simp [hagg] at h
 |some b=>
  simp only [hagg,Option.bind_some] at h;cases b with
  |true=>
   simp only [Option.bind_eq_some_iff] at h;obtain ⟨n,hn,h⟩:=h;split at h
   case isFalse=>simp at h
   case isTrue hle=>
    simp at h;subst h;have hsz:=hr.1;refine ⟨.agg (vs.extract off (off+n)),by simp [Go.part,run_isAgg hagg,run_size hn],AggR.agg ⟨by simp;omega,fun c x hx=> ?_⟩⟩;rw [List.getElem?_take] at hx;split at hx
    case isFalse=>simp at hx
    case isTrue hc=>
     rw [List.getElem?_drop] at hx;obtain ⟨v,e1,e2,e3⟩:=hr.2 _ x hx;refine ⟨v,?_,e2,e3⟩;rw [Nat.zero_add] at e1 ⊢;rw [Array.getElem?_extract,if_pos (by omega)];exact e1
  |false=>
   simp only at h;obtain ⟨v,e1,e2,e3⟩:=hr.2 off x h;rw [Nat.zero_add] at e1;exact ⟨v,by simp [Go.part,run_isAgg hagg,e1],e3⟩
def PartsR (g:Gx) (w:World):List (Nat×AV)->List (Nat×Value)->Prop
 |[],[]=>True
 |(i,x)::l,(j,v)::m=>i=j/\VRel g w x v/\PartsR g w l m
 |_,_=>False
theorem parts_sound:∀ {ps:List (Nat×Operand)} {l:List (Nat×AV)},parts A s.e ps=some l->WRel A.glob g w s.H->EnvRel g f w s.e a.tmps->PartsR g w l (ps.map fun (i,x)=>(i,a.eval x))
 |[],l,h,_,_=>by simp [parts] at h;subst h;trivial
 |(i,x)::ps,l,h,hw,he=>by
  simp only [parts,Option.bind_eq_some_iff] at h;obtain ⟨av,hav,l',hl',h⟩:=h;simp at h;subst h;exact ⟨rfl,val_sound hav hw he,parts_sound hl' hw he⟩
theorem fill_sound {place:Nat->Option (Nat×Nat)}:∀ {l:List (Nat×AV)} {m:List (Nat×Value)} {row row':List AV} {cells:Array Value},fillRow place row l=some row'->PartsR g w l m->AggR g w row cells->
  ∃ cells',Instr.fill place cells m=some cells'/\AggR g w row' cells'
 |[],[],row,row',cells,h,_,hr=>by simp [fillRow] at h;subst h;exact ⟨cells,rfl,hr⟩
 |(i,x)::l,(j,v)::m,row,row',cells,h,hp,hr=>by
  obtain ⟨rfl,hx,hp⟩:=hp;simp only [fillRow,Option.bind_eq_some_iff] at h;obtain ⟨⟨off,n⟩,hpl,cs,hcs,h⟩:=h;simp only at h;split at h
  case isFalse=>simp at h
  case isTrue hn=>
   simp only [Option.bind_eq_some_iff] at h;obtain ⟨row1,hsp,h⟩:=h;obtain ⟨c1,c2,c3⟩:=cells_sound hcs hx;have hfit:off+cs.length<=row.length:=by unfold splice at hsp;split at hsp;assumption;simp at hsp
   have hsz:=hr.1;obtain ⟨hl',hrr⟩:=splice_rel (vs:=v.cells.toList) hsp (by simpa using c1) hr.2 c2 c3 (by omega);simp only [Nat.zero_add] at hrr;have hfold:=fold_splice off v.cells cells (by omega);obtain ⟨cells',e1,e2⟩:=fill_sound (cells:=v.cells.zipIdx.foldl (fun cs (c,j)=>cs.setIfInBounds (off+j) c) cells) h hp (by
    rw [hfold];refine ⟨?_,by simpa using hrr⟩;simp only [List.size_toArray,List.length_append,List.length_take,List.length_drop,Array.length_toList];omega)
   refine ⟨cells',?_,e2⟩;simp only [Instr.fill,hpl];rw [if_neg (by simp;omega)];exact e1
 |[],_::_,_,_,_,_,hp,_=>hp.elim
 |_::_,[],_,_,_,_,hp,_=>by cases ‹Nat×AV›;exact hp.elim
theorem run_mapM_pure {α β:Type} (P:Program) (w:World) (fn:α->Sem β) (p:α->Option β):∀ l:List α,(∀ x∈l,∃ y,p x=some y/\(fn x).run P w= .ok y w)->
  ∃ ys:List β,(l.mapM fn).run P w= .ok ys w/\∀ i:Nat,ys[i]?=l[i]?.bind p
 |[],_=>⟨[],by simp,fun i=>by simp⟩
 |x::l,h=>by
  obtain ⟨y,h1,h2⟩:=h x (by simp);obtain ⟨ys,h3,h4⟩:=run_mapM_pure P w fn p l (fun z hz=>h z (by simp [hz]));refine ⟨y::ys,by simp [List.mapM_cons,h2,h3],fun i=> ?_⟩;cases i with
  |zero=>simp [h1]
  |succ i=>simpa using h4 i
end
end Go.V
namespace Go.V
open Go
section
variable {A:Par} {g:Gx} {f:Fx} {w:World} {s:S} {a:Act}
theorem build_sound {t:TypeId} {l:List (Nat×AV)} {m:List (Nat×Value)} {x:AV} (h:build A t l=some x) (hp:PartsR g w l m):
   ∃ v,(Instr.build t m.toArray).run A.P w= .ok v w/\VRel g w x v:=by
 unfold build at h;simp only [Option.bind_eq_some_iff] at h;obtain ⟨z,hz,h⟩:=h;obtain ⟨zv,hzr,hza⟩:=zero_aggR (g:=g) (w:=w) hz;split at h
 · rename_i fs hu;split at h
   case isFalse=>simp at h
   case isTrue hall=>
    simp only [Option.map_eq_some_iff] at h;obtain ⟨row,hrow,rfl⟩:=h;obtain ⟨ps,hrun,hps⟩:=run_mapM_pure A.P w (fun f:Field=>do pure (f.offset,<- sizeOf f.type)) (fun f=>(size A f.type).map fun n=>(f.offset,n)) fs.toList (fun fd hfd=>by
     have:=List.all_eq_true.1 hall fd hfd;cases hn:size A fd.type with
     |none=>simp [hn] at this
     |some n=>exact ⟨(fd.offset,n),by simp,by simp [run_size hn]⟩)
    have hplace:(fun i:Nat=>ps.toArray[i]?)=fun i:Nat=>fs[i]?.bind fun f:Field=>(size A f.type).map fun n=>(f.offset,n):=by
     funext i
     simpa using hps i
    rw [<- hplace] at hrow;obtain ⟨cells',e1,e2⟩:=fill_sound hrow hp hza;refine ⟨.agg cells',?_,e2.agg⟩;have hrun':(fs.mapM (fun f:Field=>do pure (f.offset,<- sizeOf f.type))).run A.P w= .ok ps.toArray w:=by
     rw [Array.mapM_eq_mapM_toList];simp only [Sem.run_map,hrun,Result.andThen_ok]
    simp only [Instr.build,Sem.run_bind,hzr,Result.andThen_ok,run_underlying hu,hrun',List.toList_toArray,e1];rfl
 · rename_i n e hu;simp only [Option.bind_eq_some_iff,Option.map_eq_some_iff] at h;obtain ⟨sz,hsz,row,hrow,rfl⟩:=h;obtain ⟨cells',e1,e2⟩:=fill_sound hrow hp hza;refine ⟨.agg cells',?_,e2.agg⟩;simp only [Instr.build,Sem.run_bind,hzr,Result.andThen_ok,run_underlying hu,run_size hsz,List.toList_toArray,e1];rfl
 · simp at h
theorem elem_info {t e:TypeId} (h:elem? A t=some e):A.P.underlying t=some (.slice e):=by
 unfold elem? at h;split at h
 · rename_i e' hu;simp at h;subst h;exact hu
 · simp at h
def RowsR (g:Gx) (w:World) (sz:Nat) (rows:List (List AV)) (cs:Array Value):Prop:=
 rows.length * sz<=cs.size/\∀ (r:Nat) (row:List AV),rows[r]?=some row->row.length=sz/\RowRel g w cs (r * sz) row
theorem rows_soundT {ty:Option (TypeId×Nat)} {rows:List (List AV)} {sz:Nat} {cs:Array Value} {t:TypeId} {fz:Nat×Nat} {w':World} {v:AV} {rv:Value} {r:Result Next} (hw:WRel A.glob g w s.H) (hf:FRel g f w s.H s.F) (hpos:0<sz) (hr:RowsR g w sz rows cs)
  (hheap:w'.heap=w.heap.push (.cells cs t fz)) (hfz:∀ off,off<cs.size->¬ (fz.1<=off/\off<fz.2))
  (hv:VRel (g.add s.H.bl.length ⟨w.heap.size,0,cs.size,sz⟩) w' v rv) (hrun:r= .ok (.value rv) w') (hty:ty=some (t,1)\/ty=none) (hio:w'.os=w.os/\w'.output=w.output:=by first|exact ⟨rfl,rfl⟩|assumption):
  Did A.glob g f w s { s with H:=push s.H (.cells rows sz ty) } (.v v) r:=by
 have hlt:w.heap.size<w'.heap.size:=by rw [hheap];simp
 have hoth:∀ R,R<w.heap.size->w'.heap[R]?=w.heap[R]?:=fun R hR=>by rw [hheap];simp [Array.getElem?_push,Nat.ne_of_lt hR]
 have hzn:¬ g.Z w.heap.size:=fun hz=>Nat.lt_irrefl _ (hw.zlt _ hz)
 obtain ⟨q1,q2,q3⟩:=new_block (l:=⟨w.heap.size,0,cs.size,sz⟩) (x:= .cells rows sz ty) hw hf (Nat.le_of_lt hlt) rfl hlt hoth (fun hle=>
  ⟨by
   rcases hty with rfl|rfl
   · exact ⟨⟨cs,fz,by rw [hheap];simp⟩,fun _=>rfl,fun h=>by omega⟩
   · trivial,hpos,rfl,by simpa using hr.1,cs,⟨t,fz,by rw [hheap];simp,rfl,hfz,hzn⟩,fun r row hrow=>⟨(hr.2 r row hrow).1,by simpa using (hr.2 r row hrow).2.mono hle⟩⟩)
 exact ⟨rv,w',_,f,.inl hrun,q1,q2,q3,hv⟩
theorem rows_sound {rows:List (List AV)} {sz:Nat} {cs:Array Value} {t:TypeId} {fz:Nat×Nat} {w':World} {v:AV} {rv:Value} {r:Result Next} (hw:WRel A.glob g w s.H) (hf:FRel g f w s.H s.F) (hpos:0<sz) (hr:RowsR g w sz rows cs)
  (hheap:w'.heap=w.heap.push (.cells cs t fz)) (hfz:∀ off,off<cs.size->¬ (fz.1<=off/\off<fz.2))
  (hv:VRel (g.add s.H.bl.length ⟨w.heap.size,0,cs.size,sz⟩) w' v rv) (hrun:r= .ok (.value rv) w') (hio:w'.os=w.os/\w'.output=w.output:=by first|exact ⟨rfl,rfl⟩|assumption):
  Did A.glob g f w s { s with H:=push s.H (.cells rows sz (some (t,1))) } (.v v) r:=
 rows_soundT hw hf hpos hr hheap hfz hv hrun (.inl rfl)
theorem getElem?_lt' {α:Type} {l:List α} {i:Nat} {x:α} (h:l[i]?=some x):i<l.length:=by
 rcases Nat.lt_or_ge i l.length with h'|h'
 · exact h'
 · simp [List.getElem?_eq_none h'] at h
theorem zero_rows {z:List AV} {zv:Array Value} (n m:Nat) (h:AggR g w z zv) (hpos:0<z.length) (hnm:n<=m):RowsR g w z.length (List.replicate n z) ((Array.range (m * z.length)).map (zv[· %zv.size]!)):=by
 have hsz:=h.1;refine ⟨by simp;exact Nat.mul_le_mul_right _ hnm,fun r row hr=> ?_⟩;rw [List.getElem?_replicate] at hr;split at hr
 case isFalse=>simp at hr
 case isTrue hrn=>
  simp at hr;subst hr;refine ⟨rfl,fun c x hx=> ?_⟩;obtain ⟨v,e1,e2,e3⟩:=h.2 c x hx;rw [Nat.zero_add] at e1;have hc:=getElem?_lt' hx;refine ⟨v,?_,e2,e3⟩;have hlt:r * z.length+c<m * z.length:=mul_add_lt (by omega) hc;have hmod:(r * z.length+c)%zv.size=c:=by rw [hsz,Nat.mul_comm,Nat.mul_add_mod,Nat.mod_eq_of_lt hc]
  simp only [Array.getElem?_map,Array.getElem?_range,if_pos hlt,Option.map_some,hmod];simp only [Array.getElem!_eq_getD,Array.getD_eq_getD_getElem?,e1,Option.getD_some]
theorem toInt_sound {x:AV} {n:Int} {v:Value} (h:toInt x=some n) (hx:VRel g w x v):∃ k,v= .int k n:=by
 unfold toInt at h;split at h
 · simp at h;subst h;cases hx;exact ⟨_,rfl⟩
 · simp at h
theorem bytes_info {t:TypeId} {n:Nat} (h:bytes A t=some n):∃ i,A.P.info? t=some i/\i.bytes=n:=by
 unfold bytes at h
 simpa using h
theorem wrap_small {n:Int} (h0:0<=n) (h1:n<9223372036854775808):IntKind.i64.wrap n=n:=by
 unfold IntKind.wrap;simp [IntKind.bits,IntKind.signed];omega
theorem buildSlice_rows {cs0:List (List AV)} {sz:Nat}:∀ {l:List (Nat×AV)} {m:List (Nat×Value)} {rows rows':List (List AV)} {cells:Array Value},fillRows rows l=some rows'->PartsR g w l m->RowsR g w sz rows cells->cells.size=rows.length * sz->
  ∃ cells',Instr.fill (fun i=>some (i * sz,sz)) cells m=some cells'/\RowsR g w sz rows' cells'/\rows'.length=rows.length/\cells'.size=cells.size
 |[],[],rows,rows',cells,h,_,hr,_=>by simp [fillRows] at h;subst h;exact ⟨cells,rfl,hr,rfl,rfl⟩
 |(i,x)::l,(j,v)::m,rows,rows',cells,h,hp,hr,hcs=>by
  obtain ⟨rfl,hx,hp⟩:=hp;simp only [fillRows,Option.bind_eq_some_iff] at h;obtain ⟨cs,hcs',row,hrow,h⟩:=h;split at h
  case isFalse=>simp at h
  case isTrue hlen=>
   obtain ⟨c1,c2,c3⟩:=cells_sound hcs' hx;have hi:=getElem?_lt' hrow;obtain ⟨hrl,hrr⟩:=hr.2 i row hrow;have hmul:i * sz+sz<=rows.length * sz:=by rw [<- Nat.succ_mul];exact Nat.mul_le_mul_right _ hi
   have hfold:=fold_splice (i * sz) v.cells cells (by omega);have hnew:RowRel g w (cells.toList.take (i * sz)++v.cells.toList++cells.toList.drop (i * sz+v.cells.size)).toArray (i * sz) cs:=by
    have hsp:splice row 0 cs=some cs:=by
      unfold splice;rw [if_pos (by omega)];simp [List.drop_eq_nil_of_le,hlen]
    have:=(splice_rel (base:=i * sz) (vs:=v.cells.toList) hsp (by simpa using c1) hrr c2 c3 (by omega)).2
    simpa using this
   have hsz:(cells.toList.take (i * sz)++v.cells.toList++cells.toList.drop (i * sz+v.cells.size)).toArray.size=cells.size:=by
    simp only [List.size_toArray,List.length_append,List.length_take,List.length_drop,Array.length_toList];omega
   obtain ⟨cells',e1,e2,e3,e4⟩:=buildSlice_rows (cs0:=cs0) (cells:=v.cells.zipIdx.foldl (fun cs (c,j)=>cs.setIfInBounds (i * sz+j) c) cells) (rows:=rows.set i cs) h hp (by
    rw [hfold];refine ⟨by rw [hsz];simpa using hr.1,fun r row2 hr2=> ?_⟩;rw [List.getElem?_set] at hr2;split at hr2
    · rename_i e;subst e;simp [hi] at hr2;subst hr2;exact ⟨by omega,hnew⟩
    · rename_i hne;obtain ⟨hl2,hrr2⟩:=hr.2 r row2 hr2;refine ⟨hl2,?_⟩;have:=splice_other (base:=i * sz) (lo:=i * sz) (vs:=v.cells.toList) hrr2 (Nat.le_refl _) (by simp;omega) (by
       rcases Nat.lt_or_gt_of_ne hne with h|h
       · right;have:i * sz+sz<=r * sz:=by rw [<- Nat.succ_mul];exact Nat.mul_le_mul_right _ h
         omega
       · left;have:r * sz+sz<=i * sz:=by rw [<- Nat.succ_mul];exact Nat.mul_le_mul_right _ h
         omega) (by have:=hr.1;omega)
      simpa using this) (by rw [hfold,hsz,hcs];simp)
   rw [hfold,hsz] at e4;refine ⟨cells',?_,e2,by simpa using e3,e4⟩;simp only [Instr.fill];rw [if_neg (by simp;omega)];exact e1
 |[],_::_,_,_,_,_,hp,_,_=>hp.elim
 |_::_,[],_,_,_,_,hp,_,_=>by cases ‹Nat×AV›;exact hp.elim
end
end Go.V
namespace Go.V
open Go
section
variable {A:Par} {g:Gx} {f:Fx} {w:World} {s:S} {a:Act}
theorem grown_small {w:World} {need old:Nat} {e:TypeId} (h:need<=9223372036854775807):grownCap w need old e<=9223372036854775807:=by
 have:=Nat.mod_lt (w.tape w.drawn (.appendCap need old e)) (show 2^63-need>0 by omega);show need+w.tape w.drawn (.appendCap need old e)%(2^63-need)<=_;omega
theorem vrel_new {g:Gx} {w:World} {b n cap e sz R:Nat} (hn:n<=cap) (he:cap * sz<=e) (hm:cap<=9223372036854775807):VRel (g.add b ⟨R,0,e,sz⟩) w (.sl b 0 n) (.slice (some ⟨R,0,none⟩) n cap):=by
 have:=VRel.sl (g:=g.add b ⟨R,0,e,sz⟩) (w:=w) b 0 n cap (.inr rfl) hn (by rw [add_new];simpa using he) hm
 simpa [add_new] using this
theorem buildSlice_sound {t:TypeId} {n:Nat} {l:List (Nat×AV)} {m:List (Nat×Value)} {x:AV} {H':AH} {r:Result Next} (h:buildSlice A s.H t n l=some (x,H')) (hw:WRel A.glob g w s.H) (hf:FRel g f w s.H s.F) (hp:PartsR g w l m)
  (hrun:r=((do pure (.value (<- Instr.buildSlice t n m.toArray))):Sem Next).run A.P w):Did A.glob g f w s { s with H:=H' } (.v x) r:=by
 unfold buildSlice at h;simp only [Option.bind_eq_some_iff] at h;obtain ⟨e,he,z,hz,h⟩:=h;split at h
 case isFalse=>simp at h
 case isTrue hc=>
  obtain ⟨hc1,hpos,hsz⟩:=hc;have hu:=elem_info he;split at h
  · rename_i h00;obtain ⟨rfl,hl0⟩:=h00;simp at h;obtain ⟨rfl,rfl⟩:=h;have hl:l=[]:=List.eq_nil_of_length_eq_zero hl0;subst hl;cases m with
    |cons _ _=>exact hp.elim
    |nil=>
    obtain ⟨q1,q2,q3⟩:=more_world (w':=w.alloc (.cells #[] e)) hw hf (by show w.heap.size<=(w.heap.push _).size;simp) (fun R hR=>heap_alloc_old w _ R hR);refine ⟨.slice (some ⟨w.heap.size,0,none⟩) 0 0,w.alloc (.cells #[] e),g,f,.inl ?_,q1,q2,q3,.emp _⟩;rw [hrun];have h0:0 * z.length=0:=Nat.zero_mul _;have hr0:∀ q:Nat->Value,(Array.range 0).map q= #[]:=fun q=>by apply Array.eq_empty_of_size_eq_zero;simp
    simp only [Instr.buildSlice,Sem.run_bind,run_underlying hu,Result.andThen_ok,run_size hsz,h0,if_neg (show ¬ 0>2^24 by decide),if_true,Sem.run_pure,List.toList_toArray,Instr.fill,hr0,newRow,run_newObj];rfl
  simp only [Option.bind_eq_some_iff] at h;obtain ⟨rows,hrows,h⟩:=h;simp at h;obtain ⟨rfl,rfl⟩:=h;obtain ⟨zv,hzr,hza⟩:=zero_aggR (g:=g) (w:=w) hz;obtain ⟨q,hq1,hq2⟩:∃ q:Array Value,((n * z.length=0/\q= #[])\/(¬ n * z.length=0/\q=zv.cells))/\RowsR g w z.length (List.replicate n z) ((Array.range (n * z.length)).map (q[· %q.size]!)):=by
    by_cases hn:n=0
    · subst hn;exact ⟨#[],.inl ⟨by simp,rfl⟩,by simp,fun r row hr=>by simp at hr⟩
    · have:¬ n * z.length=0:=by
       intro h0;rcases Nat.mul_eq_zero.1 h0 with h0|h0<;>omega
      exact ⟨zv.cells,.inr ⟨this,rfl⟩,zero_rows n n hza hpos (Nat.le_refl _)⟩
  obtain ⟨cells',e1,e2,e3,e4⟩:=buildSlice_rows (cs0:=[]) hrows hp hq2 (by simp);have hcs:cells'.size=n * z.length:=by rw [e4];simp
  have hlen:rows.length=n:=by rw [e3];simp
  refine rows_sound (cs:=cells') (t:=e) (fz:=(0,0)) (w':=w.alloc (.cells cells' e)) hw hf hpos e2 rfl (fun off _=>by simp) (rv:= .slice (some ⟨w.heap.size,0,none⟩) n n) (vrel_new (Nat.le_refl _) (by omega) (by have:=Nat.le_mul_of_pos_right n hpos;omega)) ?_;rw [hrun];have hno:¬ n * z.length>2^24:=by omega
  rcases hq1 with ⟨hn,rfl⟩|⟨hn,rfl⟩
  · simp only [Instr.buildSlice,Sem.run_bind,run_underlying hu,Result.andThen_ok,run_size hsz,if_neg hno,if_pos hn,e1,newRow,run_newObj,Sem.run_pure];rfl
  · simp only [Instr.buildSlice,Sem.run_bind,run_underlying hu,Result.andThen_ok,run_size hsz,if_neg hno,if_neg hn,hzr,e1,newRow,run_newObj,Sem.run_pure];rfl
theorem makeSlice_sound {t:TypeId} {x y v:AV} {xv yv:Value} {H':AH} {r:Result Next} (h:makeSlice A s.H t x y=some (v,H')) (hw:WRel A.glob g w s.H) (hf:FRel g f w s.H s.F) (hx:VRel g w x xv) (hy:VRel g w y yv)
  (hrun:r=((do pure (.value (<- Instr.makeSlice t xv yv))):Sem Next).run A.P w):Did A.glob g f w s { s with H:=H' } (.v v) r:=by
 unfold makeSlice at h;split at h
 case h_2=>simp at h
 case h_1 k1 l k2 c=>
 simp only [Option.bind_eq_some_iff] at h;obtain ⟨e,he,z,hz,n,hn,h⟩:=h;split at h
 case isFalse=>simp at h
 case isTrue hc=>
  obtain ⟨h0,h1,h2,h3,hpos,hsz⟩:=hc;simp at h;obtain ⟨rfl,rfl⟩:=h;cases hx;cases hy;have hu:=elem_info he;obtain ⟨i,hi,hib⟩:=bytes_info hn;obtain ⟨zv,hzr,hza⟩:=zero_aggR (g:=g) (w:=w) hz;have wl:=wrap_small (n:=l) h0 (by omega);have wc:=wrap_small (n:=c) (by omega) h3;obtain ⟨q,hq1,hq2⟩:∃ q:Array Value,((c.toNat * z.length=0/\q= #[])\/(¬ c.toNat * z.length=0/\q=zv.cells))/\RowsR g w z.length (List.replicate l.toNat z) ((Array.range (c.toNat * z.length)).map (q[· %q.size]!)):=by
    by_cases hn:c.toNat=0
    · have:l.toNat=0:=by omega
      rw [hn,this];exact ⟨#[],.inl ⟨by simp,rfl⟩,by simp,fun r row hr=>by simp at hr⟩
    · have:¬ c.toNat * z.length=0:=by
       intro h0;rcases Nat.mul_eq_zero.1 h0 with h0|h0<;>omega
      exact ⟨zv.cells,.inr ⟨this,rfl⟩,zero_rows l.toNat c.toNat hza hpos (by omega)⟩
  refine rows_sound (cs:=(Array.range (c.toNat * z.length)).map (q[· %q.size]!)) (t:=e) (fz:=(0,0)) (w':=w.alloc (.cells ((Array.range (c.toNat * z.length)).map (q[· %q.size]!)) e)) hw hf hpos hq2 rfl (fun off _=>by simp) (rv:= .slice (some ⟨w.heap.size,0,none⟩) l.toNat c.toNat) (vrel_new (by omega) (by simp) (by omega)) ?_;rw [hrun];have t1:(decide (c<0)||decide ((i.bytes:Int) * c>2^48))=false:=by
    rw [hib];simp;omega
  have t2:¬ (l<0):=by omega
  have t3:¬ (l>c):=by omega
  rcases hq1 with ⟨hn,rfl⟩|⟨hn,rfl⟩
  · simp only [Instr.makeSlice,Sem.run_bind,run_underlying hu,Result.andThen_ok,asInt,asIntOf,Sem.run_pure,typeInfo,run_program,hi,wl,wc,t1,decide_eq_false t2,decide_eq_false t3,Bool.or_false,Bool.false_eq_true,if_false,run_askRoom,run_size hsz,if_pos hn,newRow,run_newObj];rfl
  · simp only [Instr.makeSlice,Sem.run_bind,run_underlying hu,Result.andThen_ok,asInt,asIntOf,Sem.run_pure,typeInfo,run_program,hi,wl,wc,t1,decide_eq_false t2,decide_eq_false t3,Bool.or_false,Bool.false_eq_true,if_false,run_askRoom,run_size hsz,if_neg hn,hzr,newRow,run_newObj];rfl
end
end Go.V
