/- An evaluator of the translated code and that it is right: each of its answers is an answer of the model. -/
import GoSem.Step
import Derived.Orders
import Derived.Calls
import Derived.Laws.Sem
import Derived.Laws.CopyRow
import Derived.Laws.Rows
import Derived.Laws.Append
import Derived.Laws.Entries
import Derived.Tactics
import Derived.LaidEql
set_option linter.unusedVariables false
set_option linter.unusedSimpArgs false
set_option linter.unusedSectionVars false
open Array renaming length_toList→Ge,range→Zr,getD_eq_getD_getElem?→Th,eq_empty_of_size_eq_zero→Wg
open Bool renaming false_eq_true→se
open Classical renaming byContradiction→Cf
open List renaming replicate→Ja,getElem?_eq_none→mb,getElem?_take→Ab,getElem?_drop→Dc,getElem?_eq_getElem→ya,getElem?_of_mem→Yd,append_nil→Qm,length_nil→ek,getElem?_set→Kb,getElem?_append_left→Fa,getElem?_append_right→Ka,getElem?_toArray→Xb,append_assoc→od,length_take→dc,size_toArray→Di,length_append→Ud,length_drop→Kl,mem_of_getElem?→jb,foldl_cons→vB,getElem?_cons_succ→Ke,all_eq_true→Yb,getElem?_replicate→Ei,eq_nil_of_length_eq_zero→Cr
open Nat renaming lt_or_ge→Rb,le_refl→oa,le_trans→Ib,lt_of_lt_of_le→Za,add_assoc→ud,add_zero→td,le_of_lt→Hr,zero_add→de,succ_mul→Gi,mul_le_mul_right→Vb,lt_or_gt_of_ne→Yu,add_mul→Ce,le_of_not_lt→uB
open Option renaming bind_some→da,map_eq_some_iff→ia,bind_eq_some_iff→aa,map_some→Jc
open Option.some renaming injEq→yc
namespace Go.V
open Go
inductive AV where
 |Qb
 |bool (b:Bool)
 |int (k:IntKind) (n:Int)
 |str (s:ByteArray)
 |De
 |ptr (b r c:Nat)
 |Bd (row:List AV)
 |Wa
 |sl (b r n:Nat)
 |Kd
 |lit (sz:Nat) (rows:List (List AV))
 |yf
 |mp (b:Nat)
 |Te
 |fn (f:FuncId) (Ug:List AV)
 |yl (b:Nat)
 |Cg
 |agg (cells:List AV)
 |Rc (vs:List AV)
 deriving Inhabited
inductive AB where
 |dead
 |cells (rows:List (List AV)) (sz:Nat) (ty:Option (TypeId×Nat))
 |map (es:List (AV×AV))
 |loop (n:Nat) (keep:List Nat) (env:List (Nat×AV)) (params:List Nat) (assign body:Code) (st:LoopState) (pending:Option Code)
 deriving Inhabited
structure AH where
 bl:List AB
 wm:Nat
inductive SV where
 |v (a:AV)
 |loc (i c:Nat)
structure S where
 e:List (Nat×SV)
 F:List (List AV)
 H:AH
structure oh where
 P:Program
 fns:FuncId->Option Func
 loc:FuncId->List Nat
 keep:FuncId->List Nat
 jS:FuncId->Bool
 ext:FuncId->Option (List AV->AH->Option (AV×AH))
 La:Nat->Option (List AV)
def get:List (Nat×SV)->Nat->SV
 |[],_=> .v .Qb
 |(j,x)::e,i=>if i=j then x else get e i
def AV.DM:AV->Bool
 | .Qb| .agg _| .Rc _=>false
 |_=>true
def AV.cells?:AV->Option (List AV)
 | .agg cs=>some cs
 | .Qb| .Rc _=>none
 |x=>some [x]
def qe:Value->Option AV
 | .bool b=>some (.bool b)
 | .int k n=>some (.int k n)
 | .string s=>some (.str s)
 | .pointer none=>some .De
 | .slice none 0 0=>some .Wa
 | .map none=>some .yf
 | .nilFunc=>some .Te
 | .nilIface=>some .Cg
 |_=>none
def Lc:List Value->Option (List AV)
 |[]=>some []
 |v::vs=>(qe v).bind fun x=>(Lc vs).bind fun xs=>some (x::xs)
section
variable (A:oh)
def size (t:TypeId):Option Nat:=(A.P.info? t).map (·.size)
def bytes (t:TypeId):Option Nat:=(A.P.info? t).map (·.bytes)
def isAgg (t:TypeId):Option Bool:=
 match A.P.underlying t with
 |some (.struct _)|some (.array _ _)=>some true
 |some _=>some false
 |none=>none
def zero (t:TypeId):Option (List AV):=
 match (A.P.info? t).map (·.zero) with
 |some (some v)=>Lc v.cells.toList
 |_=>none
def zeroV (t:TypeId):Option AV:=
 match (A.P.info? t).map (·.zero) with
 |some (some (Value.agg cs))=>(Lc cs.toList).map AV.agg
 |some (some v)=>qe v
 |_=>none
def operand (e:List (Nat×SV)):Operand->Option SV
 | .tmp t=>some (get e t)
 | .const v=>(qe v).map .v
 | .global g=>(A.La g).map fun row=> .v (.Bd row)
 | .func f=>some (.v (.fn f []))
def val (e:List (Nat×SV)) (x:Operand):Option AV:=
 match operand A e x with
 |some (.v a)=>some a
 |_=>none
def Pg (e:List (Nat×SV)):List Operand->Option (List AV)
 |[]=>some []
 |x::xs=>(val A e x).bind fun a=>(Pg e xs).bind fun l=>some (a::l)
def kf (row:List AV) (c:Nat) (new:List AV):Option (List AV):=
 if c+new.length<=row.length then some (row.take c++(new++row.drop (c+new.length))) else none
def part (t:TypeId) (row:List AV) (c:Nat):Option AV:=
 (isAgg A t).bind fun
  |true=>(size A t).bind fun n=>if c+n<=row.length then some (.agg ((row.drop c).take n)) else none
  |false=>row[c]?
def rowAt (H:AH) (b r:Nat):Option (List AV):=
 match H.bl[b]? with
 |some (.cells rows _ _)=>rows[r]?
 |_=>none
def Ma (H:AH) (b:Nat) (x:AB):AH:={ H with bl:=H.bl.set b x }
def push (H:AH) (x:AB):AH:={ H with bl:=H.bl++[x] }
def rowsOf (H:AH):AV->Option (List (List AV))
 | .Wa=>some []
 | .Kd=>some []
 | .lit _ rows=>some rows
 | .sl b r n=>
  match H.bl[b]? with
  |some (.cells rows _ _)=>if r+n<=rows.length then some ((rows.drop r).take n) else none
  |_=>none
 |_=>none
def Aj (H:AH) (b:Nat):Option Nat:=
 match H.bl[b]? with
 |some (.cells _ sz _)=>some sz
 |_=>none
def kE (H:AH) (b:Nat):Option (TypeId×Nat):=
 match H.bl[b]? with
 |some (.cells _ _ ty)=>ty
 |_=>none
def Wx (ty:Option (TypeId×Nat)) (e:TypeId) (r:Nat):Option (TypeId×Nat):=
 match ty with
 |some (t,k)=>if t=e/\r=0/\1<=k then some (e,1) else none
 |none=>none
def lenOf:AV->Option Nat
 | .Wa=>some 0
 | .Kd=>some 0
 | .lit _ rows=>some rows.length
 | .sl _ _ n=>some n
 | .str s=>some s.size
 |_=>none
def load (s:S) (t:TypeId):SV->Option AV
 | .loc i c=>s.F[i]?.bind fun row=>part A t row c
 | .v (.ptr b r c)=>(rowAt s.H b r).bind fun row=>part A t row c
 | .v (.Bd row)=>part A t row 0
 |_=>none
def store (s:S) (t:TypeId) (p:SV) (x:AV):Option S:=
 x.cells?.bind fun cs=>(size A t).bind fun n=>
  if cs.length=n then
   match p with
   | .loc i c=>s.F[i]?.bind fun row=>(kf row c cs).bind fun Jb=>some { s with F:=s.F.set i Jb }
   | .v (.ptr b r c)=>
    match s.H.bl[b]? with
    |some (.cells rows sz ty)=>
     if s.H.wm<=b then rows[r]?.bind fun row=>(kf row c cs).bind fun Jb=>some { s with H:=Ma s.H b (.cells (rows.set r Jb) sz ty) } else none
    |_=>none
   |_=>none
  else none
def ug (n:Nat):SV->Option SV
 | .loc i c=>some (.loc i (c+n))
 | .v (.ptr b r c)=>some (.v (.ptr b r (c+n)))
 | .v (.Bd row)=>some (.v (.Bd (row.drop n)))
 |_=>none
def field? (t:TypeId) (f:Nat):Option Field:=
 match A.P.underlying t with
 |some (.struct fs)=>fs[f]?
 |_=>none
def va (i:Int) (n:Nat):Bool:=decide (0<=i)&&decide (i<(n:Int))
def indexAddr (H:AH) (t:TypeId) (x:SV) (i:Int):Option SV:=
 match A.P.underlying t with
 |some (.array n e)=>if va i n then (size A e).bind fun sz=>ug (i.toNat * sz) x else none
 |some (.slice e)=>
  match x with
  | .v (.sl b r n)=>if va i n then ((Aj H b).bind fun sz=>if size A e=some sz then some (.v (.ptr b (r+i.toNat) 0)) else none) else none
  | .v (.lit sz rows)=>if va i rows.length then (if size A e=some sz then rows[i.toNat]?.map fun row=> .v (.Bd row) else none) else none
  |_=>none
 |_=>none
def index (t:TypeId) (x:AV) (i:Int):Option AV:=
 match A.P.underlying t,x with
 |some (.array n e),.agg cs=>if va i n then (size A e).bind fun sz=>part A e cs (i.toNat * sz) else none
 |some .string,.str s=>if va i s.size then some (.int .u8 (s[i.toNat]!.toNat:Int)) else none
 |_,_=>none
def Vf (place:Nat->Option (Nat×Nat)) (row:List AV):List (Nat×AV)->Option (List AV)
 |[]=>some row
 |(i,x)::rest=>
  (place i).bind fun (off,n)=>x.cells?.bind fun cs=>
   if cs.length=n then (kf row off cs).bind fun Jb=>Vf place Jb rest else none
def parts (e:List (Nat×SV)):List (Nat×Operand)->Option (List (Nat×AV))
 |[]=>some []
 |(i,x)::xs=>(val A e x).bind fun a=>(parts e xs).bind fun l=>some ((i,a)::l)
def build (t:TypeId) (ps:List (Nat×AV)):Option AV:=
 (zero A t).bind fun z=>
  match A.P.underlying t with
  |some (.struct fs)=>if fs.toList.all fun f=>(size A f.type).isSome then (Vf (fun i=>fs[i]?.bind fun f=>(size A f.type).map fun n=>(f.offset,n)) z ps).map .agg else none
  |some (.array _ e)=>(size A e).bind fun n=>(Vf (fun i=>some (i * n,n)) z ps).map .agg
  |_=>none
def elem? (t:TypeId):Option TypeId:=
 match A.P.underlying t with
 |some (.slice e)=>some e
 |_=>none
def He (rows:List (List AV)):List (Nat×AV)->Option (List (List AV))
 |[]=>some rows
 |(i,x)::rest=>x.cells?.bind fun cs=>rows[i]?.bind fun row=>if cs.length=row.length then He (rows.set i cs) rest else none
def buildSlice (H:AH) (t:TypeId) (len:Nat) (ps:List (Nat×AV)):Option (AV×AH):=
 (elem? A t).bind fun e=>(zero A e).bind fun z=>
  if len * z.length<=16777216/\0<z.length/\size A e=some z.length then
   if len=0/\ps.length=0 then some (.Kd,H) else (He (Ja len z) ps).bind fun rows=>some (.sl H.bl.length 0 len,push H (.cells rows z.length (some (e,1))))
  else none
def makeSlice (H:AH) (t:TypeId) (len cap:AV):Option (AV×AH):=
 match len,cap with
 | .int _ l,.int _ c=>
  (elem? A t).bind fun e=>(zero A e).bind fun z=>(bytes A e).bind fun n=>
   if 0<=l/\l<=c/\n * c<=70368744177664/\c<9223372036854775808/\0<z.length/\size A e=some z.length then
    some (.sl H.bl.length 0 l.toNat,push H (.cells (Ja l.toNat z) z.length (some (e,1))))
   else none
 |_,_=>none
def ic (s:ByteArray):List (List AV):=s.data.toList.map fun b=>[.int .u8 (b.toNat:Int)]
def append (H:AH) (argTypes:Array TypeId) (x y:AV):Option (AV×AH):=
 argTypes[0]?.bind fun t=>(elem? A t).bind fun e=>(zero A e).bind fun z=>(bytes A e).bind fun n=>
  (match argTypes[1]? with
   |some u=>(match A.P.underlying u with|some (.int _)=>none|some _=>some ()|none=>none)
   |none=>some ()).bind fun _=>
  (rowsOf H x).bind fun xs=>(match y with| .str s=>some (ic s)|y=>rowsOf H y).bind fun ys=>
   if (xs.length+ys.length) * n<=70368744177664/\xs.length+ys.length<9223372036854775808/\0<z.length/\size A e=some z.length/\ys.all (fun r=>r.length==z.length) then
    if ys.length=0 then some (x,H)
    else
     match x with
     | .Wa| .Kd=>some (.sl H.bl.length 0 ys.length,push H (.cells ys z.length (some (e,1))))
     | .sl b r _=>
      if H.wm<=b/\Aj H b=some z.length then some (.sl H.bl.length 0 (xs.length+ys.length),push (Ma H b .dead) (.cells (xs++ys) z.length (Wx (kE H b) e r))) else none
     |_=>none
   else none
def aM (lo hi:Option Int) (n:Nat):Option (Nat×Nat):=
 if 0<=lo.getD 0/\lo.getD 0<=hi.getD n/\hi.getD n<=n then some ((lo.getD 0).toNat,(hi.getD n).toNat) else none
def slice (H:AH) (t:TypeId) (x:AV) (lo hi:Option Int):Option AV:=
 match A.P.underlying t,x with
 |some .string,.str s=>(aM lo hi s.size).map fun (l,h)=> .str (s.extract l h)
 |some (.slice e),.Wa=>(size A e).bind fun _=>(aM lo hi 0).map fun _=> .Wa
 |some (.slice e),.Kd=>(size A e).bind fun _=>(aM lo hi 0).map fun _=> .Kd
 |some (.slice e),.lit sz rows=>(aM lo hi rows.length).bind fun (l,h)=>if size A e=some sz then some (.lit sz ((rows.take h).drop l)) else none
 |some (.slice e),.sl b r n=>(aM lo hi n).bind fun (l,h)=>(Aj H b).bind fun sz=>if size A e=some sz then some (.sl b (r+l) (h-l)) else none
 |_,_=>none
def Vh (t:TypeId) (x:AV):Option AV:=
 match A.P.underlying t with
 |some (.slice e)=>(size A e).bind fun _=>match x with
  | .Wa=>some .Wa
  | .Kd| .lit _ _| .sl _ _ _=>some .Kd
  |_=>none
 |_=>none
def tT (x:AV):Bool:=match x with| .int _ n=>decide (n=0)|_=>false
def bits (op:BinOp) (k:IntKind) (x y:Int):Option Int:=
 let a:=BitVec.ofInt k.bits x
 let b:=BitVec.ofInt k.bits y
 match op with
 | .and=>some (k.wrap (a &&& b).toNat)
 | .or=>some (k.wrap (a ||| b).toNat)
 | .xor=>some (k.wrap (a ^^^ b).toNat)
 | .andNot=>some (k.wrap (a &&& ~~~b).toNat)
 |_=>none
def bp (op:BinOp) (k:IntKind) (x y:Int):Option AV:=
 match op with
 | .add=>some (.int k (k.wrap (x+y)))
 | .sub=>some (.int k (k.wrap (x-y)))
 | .mul=>some (.int k (k.wrap (x * y)))
 | .quo=>if y=0 then none else some (.int k (k.wrap (x.tdiv y)))
 | .rem=>if y=0 then none else some (.int k (x.tmod y))
 | .and| .or| .xor| .andNot=>(bits op k x y).map (.int k)
 | .eql=>some (.bool (decide (x=y)))
 | .neq=>some (.bool (!decide (x=y)))
 | .lss=>some (.bool (decide (x<y)))
 | .leq=>some (.bool (decide (x<=y)))
 | .gtr=>some (.bool (decide (y<x)))
 | .geq=>some (.bool (decide (y<=x)))
 |_=>none
def eqFields (eq:TypeId->AV->AV->Option Bool) (xs ys:List AV):List Field->Option Bool
 |[]=>some true
 |fd::fs=>
  if fd.name= "_" then eqFields eq xs ys fs
  else (part A fd.type xs fd.offset).bind fun x=>(part A fd.type ys fd.offset).bind fun y=>(eq fd.type x y).bind fun b=>(eqFields eq xs ys fs).map fun c=>b&&c
def sg (eq:AV->AV->Option Bool) (e:TypeId) (sz:Nat) (xs ys:List AV):Nat->Nat->Option Bool
 |0,_=>some true
 |n+1,i=>(part A e xs (i * sz)).bind fun x=>(part A e ys (i * sz)).bind fun y=>(eq x y).bind fun b=>(sg eq e sz xs ys n (i+1)).map fun c=>b&&c
def Lu:Nat->TypeId->AV->AV->Option Bool
 |0,_,_,_=>none
 |d+1,t,x,y=>
  match A.P.underlying t,x,y with
  |some .bool,.bool a,.bool b=>some (a==b)
  |some (.int _),.int k a,.int k' b=>if k=k' then some (decide (a=b)) else none
  |some .string,.str a,.str b=>some (a.toList==b.toList)
  |some (.struct fs),.agg xs,.agg ys=>if A.P.stoodInHeld t then none else eqFields A (Lu d) xs ys fs.toList
  |some (.array n e),.agg xs,.agg ys=>(size A e).bind fun sz=>sg A (Lu d e) e sz xs ys n 0
  |_,_,_=>none
def og (t:TypeId) (x y:AV):Option Bool:=
 match A.P.underlying t,x,y with
 |some .bool,.bool a,.bool b=>some (a==b)
 |some (.struct _),.agg xs,.agg ys=>if A.P.eqGuardType A.P.depth t then none else Lu A 1000 t (.agg xs) (.agg ys)
 |some (.array _ _),.agg xs,.agg ys=>if A.P.eqGuardType A.P.depth t then none else Lu A 1000 t (.agg xs) (.agg ys)
 |some (.slice _),.Wa,.Wa=>some true
 |some (.slice _),.Wa,.lit _ _|some (.slice _),.lit _ _,.Wa|some (.slice _),.Wa,.sl .. |some (.slice _),.sl ..,.Wa|some (.slice _),.Wa,.Kd|some (.slice _),.Kd,.Wa=>some false
 |some (.pointer _),.De,.De=>some true
 |some (.pointer _),.De,.ptr .. |some (.pointer _),.ptr ..,.De|some (.pointer _),.De,.Bd _|some (.pointer _),.Bd _,.De=>some false
 |some (.map _ _),.yf,.yf=>some true
 |some (.map _ _),.yf,.mp _|some (.map _ _),.mp _,.yf=>some false
 |some (.func _ _ _),.Te,.Te=>some true
 |some (.func _ _ _),.Te,.fn .. |some (.func _ _ _),.fn ..,.Te=>some false
 |_,_,_=>none
def Ir (op:BinOp) (x y:ByteArray):Option AV:=
 match op with
 | .add=>if x.size+y.size<=9223372036854775807 then some (.str (x++y)) else none
 | .eql=>some (.bool (x.toList==y.toList))
 | .neq=>some (.bool (!(x.toList==y.toList)))
 | .lss=>some (.bool (Op.bytesLess x.toList y.toList))
 | .leq=>some (.bool (Op.bytesLess x.toList y.toList||x.toList==y.toList))
 | .gtr=>some (.bool !(Op.bytesLess x.toList y.toList||x.toList==y.toList))
 | .geq=>some (.bool !(Op.bytesLess x.toList y.toList))
 |_=>none
def binop (op:BinOp) (t:TypeId) (x y:AV):Option AV:=
 match op,x,y with
 | .shl,.int k a,.int _ b=>if 0<=b then some (.int k (k.wrap (a * 2^min b.toNat k.bits))) else none
 | .shr,.int k a,.int _ b=>if 0<=b then some (.int k (a.fdiv (2^min b.toNat k.bits))) else none
 |op,.int k a,.int k' b=>if k=k' then bp op k a b else none
 |op,.str a,.str b=>Ir op a b
 | .eql,x,y=>(og A t x y).map .bool
 | .neq,x,y=>(og A t x y).map fun b=> .bool !b
 |_,_,_=>none
def unop (op:UnOp) (x:AV):Option AV:=
 match op,x with
 | .neg,.int k n=>some (.int k (k.wrap (0-n)))
 | .xor,.int k n=>(bits .xor k (if k.signed then -1 else k.max) n).map (.int k)
 | .not,.bool b=>some (.bool !b)
 |_,_=>none
def Fh:List (List AV)->Option (List UInt8)
 |[]=>some []
 |[.int .u8 n]::rest=>(Fh rest).bind fun l=>some (UInt8.ofNat n.toNat::l)
 |_=>none
def convert (H:AH) (src dst:TypeId) (x:AV):Option (AV×AH):=
 match A.P.underlying src,A.P.underlying dst,x with
 |some _,some (.int k),.int _ n=>some (.int k (k.wrap n),H)
 |some _,some .string,.str s=>some (.str s,H)
 |some .string,some (.slice e),.str s=>
  match A.P.underlying e with
  |some (.int .u8)=>if s.size<=70368744177664 then some (.sl H.bl.length 0 s.size,push H (.cells (ic s) 1 (some (e,1)))) else none
  |_=>none
 |some (.slice e),some .string,x=>
  match A.P.underlying e with
  |some (.int .u8)=>(rowsOf H x).bind fun rows=>(Fh rows).map fun l=>(.str ⟨l.toArray⟩,H)
  |_=>none
 |_,_,_=>none
def iA:AV->AV->Option Bool
 | .int k x,.int k' y=>if k=k' then some (decide (x=y)) else none
 | .str x,.str y=>some (x==y)
 |_,_=>none
def Xh (k:AV):List (AV×AV)->Option (Option AV)
 |[]=>some none
 |(k',v)::es=>(iA k k').bind fun
  |true=>some (some v)
  |false=>Xh k es
def sn (k v:AV):List (AV×AV)->Option (List (AV×AV))
 |[]=>some [(k,v)]
 |(k',v')::es=>(iA k k').bind fun
  |true=>some ((k,v)::es)
  |false=>(sn k v es).map ((k',v'):: ·)
def vn (k:AV):List (AV×AV)->Option (List (AV×AV))
 |[]=>some []
 |(k',v')::es=>(iA k k').bind fun
  |true=>some es
  |false=>(vn k es).map ((k',v'):: ·)
def mapOf (H:AH):AV->Option (List (AV×AV))
 | .yf=>some []
 | .mp b=>match H.bl[b]? with|some (.map es)=>some es|_=>none
 |_=>none
def AV.isKey:AV->Bool
 | .int _ _| .str _=>true
 |_=>false
def Hi (t:TypeId) (k:AV):Bool:=
 match A.P.underlying t,k with
 |some (.int _),.int _ _=>true
 |some .string,.str _=>true
 |_,_=>false
def lookup (H:AH) (t:TypeId) (m k:AV) (ok:Bool):Option AV:=
 match A.P.underlying t with
 |some (.map kt et)=>
  if Hi A kt k then
   (mapOf H m).bind fun es=>(Xh k es).bind fun r=>
    (match r with|some v=>some (v,true)|none=>(zeroV A et).map fun z=>(z,false)).bind fun (v,b)=>
     some (if ok then .Rc [v,.bool b] else v)
  else none
 |_=>none
def mapUpdate (H:AH) (t:TypeId) (m k x:AV):Option AH:=
 match A.P.underlying t,m with
 |some (.map kt _),.mp b=>
  if Hi A kt k&&decide (H.wm<=b) then
   match H.bl[b]? with
   |some (.map es)=>(sn k x es).map fun qd=>Ma H b (.map qd)
   |_=>none
  else none
 |_,_=>none
def uf (H:AH) (t:TypeId) (m k:AV):Option AH:=
 match A.P.underlying t,m with
 |some (.map kt _),.yf=>if Hi A kt k then some H else none
 |some (.map kt _),.mp b=>
  if Hi A kt k&&decide (H.wm<=b) then
   match H.bl[b]? with
   |some (.map es)=>(vn k es).map fun qd=>Ma H b (.map qd)
   |_=>none
  else none
 |_,_=>none
def toInt:AV->Option Int
 | .int _ n=>some n
 |_=>none
def Bg (e:List (Nat×SV)):Option Operand->Option (Option Int)
 |none=>some none
 |some x=>(val A e x).bind fun a=>(toInt a).map some
abbrev Callee:=AV->List AV->AH->Option (AV×AH)
def mH:AV->AV->Option AV
 | .int k x,.int _ y=>some (.int k (if y>x then y else x))
 |_,_=>none
def kH:AV->AV->Option AV
 | .int k x,.int _ y=>some (.int k (if y<x then y else x))
 |_,_=>none
def Ck (f:AV->AV->Option AV) (x:AV):List AV->Option AV
 |[]=>some x
 |y::ys=>(f x y).bind fun z=>Ck f z ys
def builtin (H:AH) (b:Builtin) (argTypes:Array TypeId) (args:List AV):Option (AV×AH):=
 match b,args with
 | .append,[x,y]=>append A H argTypes x y
 | .len,[x]=>
  argTypes[0]?.bind fun t=>
   match A.P.underlying t,x with
   |some .string,.str s=>some (.int .i64 s.size,H)
   |some (.slice _),.Wa|some (.slice _),.Kd=>some (.int .i64 0,H)
   |some (.slice _),.lit _ rows=>some (.int .i64 rows.length,H)
   |some (.slice _),.sl _ _ n=>some (.int .i64 n,H)
   |some (.map _ _),m=>(mapOf H m).map fun es=>(.int .i64 es.length,H)
   |some (.array n _),_=>some (.int .i64 n,H)
   |_,_=>none
 | .max,x::xs=>(Ck mH x xs).map fun v=>(v,H)
 | .min,x::xs=>(Ck kH x xs).map fun v=>(v,H)
 | .delete,[m,k]=>argTypes[0]?.bind fun t=>(uf A H t m k).map fun H'=>(.Rc [],H')
 | .copy,[x,y]=>
  argTypes[0]?.bind fun t=>(elem? A t).bind fun e=>(size A e).bind fun z=>
   (rowsOf H y).bind fun ys=>
    match x with
    | .Wa| .Kd=>some (.int .i64 0,H)
    | .sl b r n=>
     match H.bl[b]? with
     |some (.cells rows sz ty)=>
      if H.wm<=b/\r+n<=rows.length/\sz=z/\ys.all (fun q=>q.length==z) then
       let new:=ys.take (min ys.length n)
       some (.int .i64 new.length,Ma H b (.cells (rows.take r++(new++rows.drop (r+new.length))) sz ty))
      else none
     |_=>none
    |_=>none
 |_,_=>none
def box (s:S) (t:TypeId) (Gg:Bool) (cs:List AV):SV×S:=
 if Gg then (.loc s.F.length 0,{ s with F:=s.F++[cs] }) else (.v (.ptr s.H.bl.length 0 0),{ s with H:=push s.H (.cells [cs] cs.length (some (t,2))) })
def boxed (s:S) (t:TypeId) (Gg:Bool) (cs:List AV):Option (SV×S):=if Gg||decide (0<cs.length) then some (box s t Gg cs) else none
def Hf (s:S) (x:Option AV):Option (SV×S):=x.map fun a=>(.v a,s)
def fh (s:S) (x:Option (AV×AH)):Option (SV×S):=x.map fun (a,H)=>(.v a,{ s with H:=H })
def Ig (fz:AH->AV->Option (AV×AH)):AH->List AV->Option (List AV×AH)
 |H,[]=>some ([],H)
 |H,x::xs=>(fz H x).bind fun (x',H')=>(Ig fz H' xs).bind fun (Ho,H'')=>some (x'::Ho,H'')
def zh (fz:AH->AV->Option (AV×AH)):AH->List (List AV)->Option (List (List AV)×AH)
 |H,[]=>some ([],H)
 |H,x::xs=>(Ig fz H x).bind fun (x',H')=>(zh fz H' xs).bind fun (Ho,H'')=>some (x'::Ho,H'')
def freeze:Nat->AH->AV->Option (AV×AH)
 |0,_,_=>none
 |d+1,H,.sl b r n=>
  (rowsOf H (.sl b r n)).bind fun rows=>(Aj H b).bind fun sz=>
   if H.wm<=b then (zh (freeze d) (Ma H b .dead) rows).bind fun (Qd,H')=>some (.lit sz Qd,H') else none
 |d+1,H,.agg cs=>(Ig (freeze d) H cs).bind fun (Bh,H')=>some (.agg Bh,H')
 |d+1,H,.Rc cs=>(Ig (freeze d) H cs).bind fun (Bh,H')=>some (.Rc Bh,H')
 |_+1,H,x=>some (x,H)
def xm (za:List Nat) (o:Oper):Bool:=(o.dst.map fun d=>za.contains (2000000+d)).getD false
def op (call:Callee) (za:List Nat) (s:S) (o:Oper):Option (SV×S):=
 match o.op with
 | .move x| .assign x=>(operand A s.e x).map fun v=>(v,s)
 | .pick c a b=>(val A s.e c).bind fun
  | .bool true=>(operand A s.e a).map fun v=>(v,s)
  | .bool false=>(operand A s.e b).map fun v=>(v,s)
  |_=>none
 | .alloc t=>(zero A t).bind fun z=>boxed s t ((o.dst.map (za.contains ·)).getD false) z
 | .box t x=>(val A s.e x).bind fun a=>a.cells?.bind fun cs=>boxed s t ((o.dst.map (za.contains ·)).getD false) cs
 | .build t ps=>(parts A s.e ps.toList).bind fun l=>Hf s (build A t l)
 | .buildSlice t n ps=>(parts A s.e ps.toList).bind fun l=>fh s ((buildSlice A s.H t n l).bind fun (v,H)=>if xm za o then freeze 8 H v else some (v,H))
 | .load t x=>(operand A s.e x).bind fun p=>Hf s (load A s t p)
 | .store t x y=>(operand A s.e x).bind fun p=>(val A s.e y).bind fun a=>(store A s t p a).map fun s'=>(.v .Qb,s')
 | .nilCheck x=>(operand A s.e x).bind fun
  | .loc i c=>some (.loc i c,s)
  | .v (.ptr b r c)=>some (.v (.ptr b r c),s)
  | .v (.Bd row)=>some (.v (.Bd row),s)
  | .v (.fn f cs)=>some (.v (.fn f cs),s)
  | .v (.yl b)=>some (.v (.yl b),s)
  |_=>none
 | .binOp b t x y _=>(val A s.e x).bind fun u=>(val A s.e y).bind fun v=>Hf s (binop A b t u v)
 | .unOp u _ x=>(val A s.e x).bind fun v=>Hf s (unop u v)
 | .convert src dst x=>(val A s.e x).bind fun v=>fh s (convert A s.H src dst v)
 | .makeFunc (.func f) first Ug=>if first.size=0 then (Pg A s.e Ug.toList).map fun l=>(.v (.fn f l),s) else none
 | .makeMap t r=>
  (match r with|none=>some ()|some x=>(match A.P.underlying t with|some (.map _ _)=>(val A s.e x).bind fun v=>(toInt v).map fun _=>()|_=>none)).bind fun _=>
   some (.v (.mp s.H.bl.length),{ s with H:=push s.H (.map []) })
 | .makeSlice t l c=>(val A s.e l).bind fun u=>(val A s.e c).bind fun v=>fh s (makeSlice A s.H t u v)
 | .slice t x lo hi none=>(val A s.e x).bind fun v=>(Bg A s.e lo).bind fun l=>(Bg A s.e hi).bind fun h=>Hf s (slice A s.H t v l h)
 | .slice t x none (some h) (some m)=>(val A s.e x).bind fun v=>(val A s.e h).bind fun a=>(val A s.e m).bind fun b=>if tT a&&tT b then Hf s (Vh A t v) else none
 | .fieldAddr t x f=>(operand A s.e x).bind fun p=>(field? A t f).bind fun fd=>(size A fd.type).bind fun n=>if n=0 then none else (ug fd.offset p).map fun v=>(v,s)
 | .field t x f=>(val A s.e x).bind fun
  | .agg cs=>(field? A t f).bind fun fd=>Hf s (part A fd.type cs fd.offset)
  |_=>none
 | .indexAddr t x i=>(operand A s.e x).bind fun p=>(val A s.e i).bind fun n=>(toInt n).bind fun n=>(indexAddr A s.H t p n).map fun v=>(v,s)
 | .index t x i=>(val A s.e x).bind fun v=>(val A s.e i).bind fun n=>(toInt n).bind fun n=>Hf s (index A t v n)
 | .lookup t x i ok=>(val A s.e x).bind fun m=>(val A s.e i).bind fun k=>Hf s (lookup A s.H t m k ok)
 | .mapUpdate t m k x| .insert t m k x=>(val A s.e m).bind fun m=>(val A s.e k).bind fun k=>(val A s.e x).bind fun v=>(mapUpdate A s.H t m k v).map fun H=>(.v .Qb,{ s with H:=H })
 | .extract x i=>(val A s.e x).bind fun
  | .Rc vs=>vs[i]?.map fun v=>(.v v,s)
  |_=>none
 | .call c=>
  (Pg A s.e c.args.toList).bind fun args=>
   match c.callee with
   | .value f=>(val A s.e f).bind fun g=>fh s (call g args s.H)
   | .builtin b=>fh s (builtin A s.H b c.argTypes args)
   |_=>none
 |_=>none
def put (s:S) (n:Nat) (dst:Option Nat) (v:SV):Option S:=
 match dst with
 |none=>some s
 |some d=>if d<n then some { s with e:=(d,v)::s.e } else none
inductive Ze where
 |no
 |heap (w:Bool)
 |box (i:Nat) (w:Bool)
def Ze.Cc:Ze->Bool
 | .heap _=>true
 |_=>false
def Ze.writes:Ze->Bool
 | .heap w=>w
 | .box _ w=>w
 | .no=>false
def af (w:Bool):Option SV->Ze
 |some (.loc i _)=> .box i w
 |some (.v (.Bd _))=>if w then .heap w else .no
 |_=> .heap w
def nq:Option SV->Ze
 |some (.v (.sl _ _ _))=> .heap false
 |_=> .no
def dh:Option (List AV)->Ze
 |some [.mp _]=> .heap false
 |some _=> .no
 |none=> .heap false
def Gg (za:List Nat) (o:Oper):Bool:=(o.dst.map (za.contains ·)).getD false
def Uc (za:List Nat) (s:S) (o:Oper) (quiet:Bool):Ze:=
 match o.op with
 | .load _ x=>af false (operand A s.e x)
 | .indexAddr _ x _=>nq (operand A s.e x)
 | .store _ x _=>af true (operand A s.e x)
 | .alloc _| .box _ _=>if Gg za o then .no else .heap false
 | .mapUpdate .. | .insert .. => .heap true
 | .call { callee:= .builtin .copy,.. }| .call { callee:= .builtin .delete,.. }=> .heap true
 | .call { callee:= .builtin .max,.. }| .call { callee:= .builtin .min,.. }=> .no
 | .call { callee:= .builtin .len,args,.. }=>dh (Pg A s.e args.toList)
 | .call _=> .heap (!quiet)
 | .move _| .assign _| .pick .. | .build .. | .nilCheck _| .binOp .. | .unOp .. | .makeFunc .. | .fieldAddr .. | .field .. | .index .. | .extract .. => .no
 |_=> .heap false
def conflict:Ze->Ze->Bool
 | .heap a,.heap b=>a||b
 | .box i a,.box j b=>i==j&&(a||b)
 |_,_=>false
def force {α:Type} (n:Nat) (k:Nat->α):α:=match n with|0=>k 0|m+1=>k (m+1)
def bitsOf (acc:List Nat):List Edge->Nat
 |[]=>0
 |e::es=>if Region.binds .any e then (2^e.on ||| acc.getD e.on 0) ||| bitsOf acc es else bitsOf acc es
def ck:List Oper->List Nat->List Nat
 |[],acc=>acc
 |o::os,acc=>force (bitsOf acc o.after.toList) fun b=>ck os (acc++[b])
def ord (b:List Nat) (i j:Nat):Bool:=(b.getD j 0).testBit i
def Kj (o:Oper):Bool:=
 match o.op with
 | .load t (.tmp _)=>(match A.P.underlying t with|some (.map _ _)|some (.func _ _ _)=>true|_=>false)
 | .lookup t _ _ false=>(match A.P.underlying t with|some (.map _ et)=>(match A.P.underlying et with|some (.func _ _ _)=>true|_=>false)|_=>false)
 |_=>false
def tq (m:Nat):SV->Bool
 | .v (.mp b)=>decide (b<m)
 | .v (.fn _ [])| .v .yf| .v .Te=>true
 |_=>false
def kP (b:List Nat) (i:Nat) (l:List Ze):Bool:=l.zipIdx.all fun (t,j)=> !(t.Cc&&t.writes)||ord b j i
def jT (o:Oper):Bool:=
 match o.op with
 | .call { callee:= .value _,.. }| .call { callee:= .builtin .append,.. }=>true
 |_=>false
def uad (za:List Nat) (o:Oper):Bool:= !Kj A o&&
 match o.op with
 | .load _ (.tmp t)| .store _ (.tmp t) _=> !za.contains t
 | .alloc _| .box _ _=> !Gg za o
 | .call { callee:= .builtin .max,.. }| .call { callee:= .builtin .min,.. }| .call { callee:= .builtin .len,.. }=>false
 | .move _| .assign _| .pick .. | .build .. | .nilCheck _| .binOp .. | .unOp .. | .makeFunc .. | .fieldAddr .. | .field .. | .index .. | .extract .. =>false
 |_=>true
def WJ:List Oper->List Nat->List Nat
 |[],l=>l
 |o::os,l=>
  match o.op,o.dst with
  | .fieldAddr _ (.tmp t) _,some d| .indexAddr _ (.tmp t) _,some d=>WJ os (if l.contains t then d::l else l)
  |_,_=>WJ os l
def quietAt (za:List Nat) (os:List Oper) (b:List Nat) (i:Nat) (o:Oper):Bool:=
 jT o&& !((o.dst.map fun d=>za.contains (1000000+d)).getD false)&&os.zipIdx.any fun (oj,j)=>uad A (WJ os za) oj&& !(j==i)&& !ord b i j&& !ord b j i
def qE (os:Array Oper) (b:List Nat):Bool:=
 (os.toList.zipIdx.all fun (o,j)=>o.after.toList.all fun e=> !Region.binds .any e||decide (e.on<j))&&
 os.toList.zipIdx.all fun (oj,j)=>os.toList.zipIdx.all fun (oi,i)=> !(decide (i<j))||ord b i j||oi.apart os oj
def Ht (b:List Nat) (l:List Ze):Bool:=
 l.zipIdx.all fun (tj,j)=> !tj.writes||l.zipIdx.all fun (ti,i)=>i==j||(decide (i<j)&&ord b i j)||(decide (j<i)&&ord b j i)|| !conflict ti tj
def Sc (os:Array Oper) (s:S) (o:Oper):Option Bool:=
 match o.guard with
 |none=>some true
 |some (j,want)=>
  match (os[j]?).bind (·.dst) with
  |some d=>match get s.e d with
   | .v (.bool b)=>some (b==want)
   | .v (.Rc [])=>some false
   |_=>none
  |none=>none
def ops (call:Callee) (za:List Nat) (n:Nat) (all:Array Oper):List Oper->S->Option S
 |[],s=>some s
 |o::rest,s=>
  (Sc all s o).bind fun
   |true=>(op A call za s o).bind fun (v,s')=>(put s' n o.dst v).bind fun gJ=>ops call za n all rest gJ
   |false=>(put s n o.dst (.v (.Rc []))).bind fun s'=>ops call za n all rest s'
def rM (call:Callee) (za:List Nat) (t:Ze) (s:S) (o:Oper):Option (SV×S):=
 match t with
 | .heap true=>op A call za s o
 |_=>(op A call za { s with H:={ s.H with wm:=s.H.bl.length } } o).map fun (v,s')=>(v,{ s' with H:={ s'.H with wm:=s.H.wm } })
def gf (s:S) (o:Oper):Bool:=
 Kj A o&&match o.op with
  | .load _ x=>(match operand A s.e x with|some (.v (.ptr ..))=>true|_=>false)
  |_=>true
def Mg (call:Callee) (za:List Nat) (rs:List (Oper×List (Nat×SV)×SV)) (s:S):Prop:=∀ r∈rs,∃ s',op A call za { s with e:=r.2.1 } r.1=some (r.2.2,s')
open Classical in
noncomputable def Lj (call:Callee) (za:List Nat) (n:Nat) (all:Array Oper) (b:List Nat):List Oper->Nat->S->List Ze->List (Oper×List (Nat×SV)×SV)->Option (S×List Ze)
 |[],_,s,l,_=>some (s,l)
 |o::rest,i,s,l,rs=>
  (Sc all s o).bind fun
   |true=>
    if gf A s o then
     (op A call za s o).bind fun (v,_)=>if tq s.H.bl.length v&&kP b i l then (put s n o.dst v).bind fun gJ=>
      if Mg A call za (rs++[(o,s.e,v)]) gJ then Lj call za n all b rest (i+1) gJ (l++[.no]) (rs++[(o,s.e,v)]) else none
     else none
    else (rM A call za (Uc A za s o (quietAt A za all.toList b i o)) s o).bind fun (v,s')=>(put s' n o.dst v).bind fun gJ=>
     if Mg A call za rs gJ then Lj call za n all b rest (i+1) gJ (l++[Uc A za s o (quietAt A za all.toList b i o)]) rs else none
   |false=>(put s n o.dst (.v (.Rc []))).bind fun s'=>if Mg A call za rs s' then Lj call za n all b rest (i+1) s' (l++[.no]) rs else none
noncomputable def region (call:Callee) (za:List Nat) (n:Nat) (os:Array Oper) (draw:Bool) (s:S):Option S:=
 if draw then
  if qE os (ck os.toList []) then
   (Lj A call za n os (ck os.toList []) os.toList 0 s [] []).bind fun (s',l)=>if Ht (ck os.toList []) l then some s' else none
  else none
 else ops A call za n os os.toList s
inductive Ex where
 |normal
 |exit (id:Nat)
 |ret
 deriving DecidableEq
def qm:Nat:=18446744073709551616
def Nr (body:S->Option (Ex×S)):Nat->S->Option (Ex×S)
 |0,_=>none
 |n+1,s=>(body s).bind fun
  |(.normal,s')=>Nr body n s'
  |(ex,s')=>some (ex,s')
def clean (keep:List Nat) (s:S):S:={ s with e:=keep.map fun i=>(i,get s.e i) }
def Px (e:List (Nat×SV)):List Nat->Option (List (Nat×AV))
 |[]=>some []
 |i::is=>(match get e i with| .v a=>some a|_=>some .Qb).bind fun a=>(Px e is).map fun l=>(i,a)::l
def ve:List (Nat×AV)->List (Nat×SV)
 |[]=>[]
 |(i,a)::l=>(i,.v a)::ve l
def Ni:List Nat->List AV->List (Nat×SV)->List (Nat×SV)
 |p::ps,a::as,e=>Ni ps as ((p,.v a)::e)
 |_,_,e=>e
def OE:Option Code->Option Ex
 |none=>some .normal
 |some .ret=>some .ret
 |some (.exit id)=>some (.exit id)
 |_=>none
def Ex.jump:Ex->Option Code
 | .normal=>none
 | .ret=>some .ret
 | .exit id=>some (.exit id)
def Ex.Fg:Ex->Bool
 | .normal=>true
 |_=>false
noncomputable def code (call:Callee) (rf:Bool) (za keep:List Nat) (n:Nat):Code->S->Option (Ex×S)
 | .skip,s=>some (.normal,s)
 | .label _,s=>some (.normal,s)
 | .region _ os draw,s=>(region A call za n os draw s).map fun s'=>(.normal,s')
 | .seq a b,s=>(code call rf za keep n a s).bind fun
  |(.normal,s')=>code call rf za keep n b s'
  |(ex,s')=>some (ex,s')
 | .cond c x y,s=>(val A s.e c).bind fun
  | .bool b=>if b then code call rf za keep n x s else code call rf za keep n y s
  |_=>none
 | .block id c,s=>(code call rf za keep n c s).bind fun
  |(.exit zB,s')=>if zB=id then some (.normal,s') else some (.exit zB,s')
  |(ex,s')=>some (ex,s')
 | .scope c,s=>code call rf za keep n c s
 | .loop c,s=>Nr (fun s=>code call rf za keep n c (clean keep s)) qm s
 | .exit id,s=>some (.exit id,s)
 | .ret,s=>some (.ret,s)
 | .rangeFunc g ps assign body,s=>if rf then
   (val A s.e g).bind fun fv=>(Px s.e keep).bind fun env=>
    (match fv with| .fn f _=>(match A.fns f with|some fn=>if fn.body.isSome then some () else none|none=>none)|_=>none).bind fun _=>
    (call fv [.yl s.H.bl.length] (push s.H (.loop n keep env ps.toList assign body .ready none))).bind fun (_,H)=>
     match H.bl[s.H.bl.length]? with
     |some (.loop _ _ _ _ _ _ st NS)=>
      (match st with| .busy=>none|_=>some ()).bind fun _=>
       if H.wm<=s.H.bl.length then (OE NS).map fun ex=>(ex,{ s with H:=Ma H s.H.bl.length .dead }) else none
     |_=>none
  else none
 |_,_=>none
def be:List AV->Nat->List (Nat×SV)
 |[],_=>[]
 |a::as,i=>(i,.v a)::be as (i+1)
def results (s:S):List ResultVar->Option (List AV)
 |[]=>some []
 | .tmp t::rs=>(match get s.e t with| .v a=>some a|_=>none).bind fun a=>(results s rs).bind fun l=>some (a::l)
 | .cell p t::rs=>(load A s t (get s.e p)).bind fun a=>(results s rs).bind fun l=>some (a::l)
def result:List AV->AV
 |[a]=>a
 |l=> .Rc l
noncomputable def call:Nat->Callee
 |0,_,_,_=>none
 |k+1,.fn f Ug,args,H=>
  match A.ext f with
  |some g=>g (args++Ug) H
  |none=>
   match A.fns f with
   |none=>none
   |some fn=>
    match fn.body with
    |none=>none
    |some c=>
     if (args++Ug).length<=fn.ntmps then
      (code A (call k) true (A.loc f) (A.keep f) fn.ntmps c ⟨be (args++Ug) 0,[],H⟩).bind fun
       |(.exit _,_)=>none
       |(_,s)=>(results A s fn.results.toList).bind fun l=>
        if A.jS f then freeze 8 s.H (result l) else some (result l,s.H)
     else none
 |k+1,.yl b,args,H=>
  match H.bl[b]? with
  |some (.loop n keep env ps assign body .ready _)=>
   if args.length=ps.length/\H.wm<=b/\ps.all (fun p=>decide (p<n)) then
    (code A (call k) false [] keep n assign ⟨Ni ps args (ve env),[],H⟩).bind fun
     |(.normal,s)=>
      match s.H.bl[b]? with
      |some (.loop n1 nT ML ps1 xG MY .ready MS)=>
       (code A (call k) false [] keep n body { s with H:=Ma s.H b (.loop n1 nT ML ps1 xG MY .busy MS) }).bind fun (ex,s2)=>
        match s2.H.bl[b]? with
        |some (.loop n2 zM gG ps2 mz vO _ _)=>
         some (.bool ex.Fg,Ma s2.H b (.loop n2 zM gG ps2 mz vO (if ex.Fg then .ready else .done) ex.jump))
        |_=>none
      |_=>none
     |_=>none
   else none
  |_=>none
 |_+1,_,_,_=>none
end
end Go.V
namespace Go.V
open Go
structure Loc where
 R:Nat
 o:Nat
 e:Nat
 sz:Nat
structure Gx where
 D:Nat->Prop
 ρ:Nat->Loc
 Z:Nat->Prop
section
variable (g:Gx) (w:World)
inductive Ya:AV->Value->Prop
 |Qb (v:Value):Ya .Qb v
 |bool (b:Bool):Ya (.bool b) (.bool b)
 |int (k:IntKind) (n:Int):Ya (.int k n) (.int k n)
 |str (s:ByteArray):Ya (.str s) (.string s)
 |De:Ya .De (.pointer none)
 |ptr (b r c:Nat):g.D b->Ya (.ptr b r c) (.pointer (some ⟨(g.ρ b).R,(g.ρ b).o+r * (g.ρ b).sz+c,none⟩))
 |Bd (row:List AV) (a:Addr) (vs:Nat->Value):a.spot=none->g.Z a.block->
  (∀ c,c<row.length->w.cell? ⟨a.block,a.off+c,none⟩=some (vs c))->(∀ c,c<row.length->(vs c).oneCell'=true)->
  (∀ (c:Nat) (x:AV),row[c]?=some x->Ya x (vs c))->Ya (.Bd row) (.pointer (some a))
 |Wa:Ya .Wa (.slice none 0 0)
 |Kd (a:Addr):Ya .Kd (.slice (some a) 0 0)
 |sl (b r n cap:Nat):g.D b->n<=cap->(g.ρ b).o+(r+cap) * (g.ρ b).sz<=(g.ρ b).e->cap<=9223372036854775807->
  Ya (.sl b r n) (.slice (some ⟨(g.ρ b).R,(g.ρ b).o+r * (g.ρ b).sz,none⟩) n cap)
 |TG (b r:Nat) (a:Addr):g.D b->Ya (.sl b r 0) (.slice (some a) 0 0)
 |lit (rows:List (List AV)) (a:Addr) (cap sz:Nat) (vs:Nat->Nat->Value):a.spot=none->rows.length<=cap->
  (rows≠[]->g.Z a.block)->(∀ (i:Nat) (row:List AV),rows[i]?=some row->row.length=sz)->
  (∀ i c,i<rows.length->c<sz->w.cell? ⟨a.block,a.off+i * sz+c,none⟩=some (vs i c))->
  (∀ i c,i<rows.length->c<sz->(vs i c).oneCell'=true)->
  (∀ (i:Nat) (row:List AV) (c:Nat) (x:AV),rows[i]?=some row->row[c]?=some x->Ya x (vs i c))->Ya (.lit sz rows) (.slice (some a) rows.length cap)
 |lits (sz:Nat) (a:Addr):Ya (.lit sz []) (.slice (some a) 0 0)
 |yf:Ya .yf (.map none)
 |mp (b:Nat):g.D b->Ya (.mp b) (.map (some (g.ρ b).R))
 |Te:Ya .Te .nilFunc
 |fn (f:FuncId) (Ug:List AV) (vs:List Value):vs.length=Ug.length->
  (∀ (i:Nat) (x:AV) (v:Value),Ug[i]?=some x->vs[i]?=some v->Ya x v)->Ya (.fn f Ug) (.func (.func f) #[] vs.toArray)
 |yl (b:Nat):g.D b->Ya (.yl b) (.func (.yield (g.ρ b).R) #[] #[])
 |Cg:Ya .Cg .nilIface
 |agg (cs:List AV) (vs:List Value):vs.length=cs.length->(∀ v∈vs,v.oneCell'=true)->
  (∀ (i:Nat) (x:AV) (v:Value),cs[i]?=some x->vs[i]?=some v->Ya x v)->Ya (.agg cs) (.agg vs.toArray)
 |Rc (cs:List AV) (vs:List Value):vs.length=cs.length->
  (∀ (i:Nat) (x:AV) (v:Value),cs[i]?=some x->vs[i]?=some v->Ya x v)->Ya (.Rc cs) (.tuple vs.toArray)
end
structure Gx.Le (g:Gx) (w:World) (g':Gx) (w':World):Prop where
 D:∀ b,g.D b->g'.D b/\g'.ρ b=g.ρ b
 Z:∀ R,g.Z R->g'.Z R/\w'.heap[R]?=w.heap[R]?
theorem cell_of_heap {w w':World} {a:Addr} (h:w'.heap[a.block]?=w.heap[a.block]?):w'.cell? a=w.cell? a:=by
 simp [World.cell?,h]
theorem Ya.mono {g g':Gx} {w w':World} (h:g.Le w g' w') {x:AV} {v:Value} (hx:Ya g w x v):Ya g' w' x v:=by
 induction hx with
 |Qb v=>exact .Qb v
 |bool b=>exact .bool b
 |int k n=>exact .int k n
 |str s=>exact .str s
 |De=>exact .De
 |ptr b r c hd=>have:=h.D b hd;rw [<- this.2];exact .ptr b r c this.1
 |Bd row a vs hs hz hc h1 _ ih=>
  exact .Bd row a vs hs (h.Z _ hz).1 (fun c Mm=>(cell_of_heap (a:=⟨a.block,a.off+c,none⟩) (h.Z _ hz).2).trans (hc c Mm)) h1 ih
 |Wa=>exact .Wa
 |Kd a=>exact .Kd a
 |sl b r n cap hd hn he hm=>
  have:=h.D b hd;rw [<- this.2];exact .sl b r n cap this.1 hn (by rw [this.2];exact he) hm
 |TG b r a hd=>exact .TG b r a (h.D b hd).1
 |lit rows a cap sz vs hs hc hz hl hw h1 _ ih=>
  refine .lit rows a cap sz vs hs hc (fun Nc=>(h.Z _ (hz Nc)).1) hl (fun i c hi Mm=> ?_) h1 ih;have Nc:rows≠[]:=by intro e;subst e;simp at hi
  exact (cell_of_heap (a:=⟨a.block,a.off+i * sz+c,none⟩) (h.Z _ (hz Nc)).2).trans (hw i c hi Mm)
 |lits sz a=>exact .lits sz a
 |yf=>exact .yf
 |mp b hd=>have:=h.D b hd;rw [<- this.2];exact .mp b this.1
 |Te=>exact .Te
 |fn f Ug vs hl _ ih=>exact .fn f Ug vs hl ih
 |yl b hd=>have:=h.D b hd;rw [<- this.2];exact .yl b this.1
 |Cg=>exact .Cg
 |agg cs vs hl h1 _ ih=>exact .agg cs vs hl h1 ih
 |Rc cs vs hl _ ih=>exact .Rc cs vs hl ih
def Row (g:Gx) (w:World) (R e:Nat) (cs:Array Value):Prop:=
 ∃ T fz,w.heap[R]?=some (.cells cs T fz)/\cs.size=e/\(∀ off,off<e->¬ (fz.1<=off/\off<fz.2))/\¬ g.Z R
def Oe (g:Gx) (w:World) (cs:Array Value) (at_:Nat) (row:List AV):Prop:=
 ∀ c x,row[c]?=some x->∃ v,cs[at_+c]?=some v/\v.oneCell'=true/\Ya g w x v
theorem Oe.mono {g g':Gx} {w w':World} (h:g.Le w g' w') {cs:Array Value} {k:Nat} {row:List AV} (hr:Oe g w cs k row):Oe g' w' cs k row:=
 fun c x hx=>let ⟨v,h1,h2,h3⟩:=hr c x hx;⟨v,h1,h2,h3.mono h⟩
def kC (w:World) (l:Loc):Option (TypeId×Nat)->Prop
 |none=>True
 |some (T,k)=>(∃ cs fz,w.heap[l.R]?=some (.cells cs T fz))/\(1<=k->l.o=0)/\(2<=k->l.e=l.sz)
theorem kC.of {w w':World} {l:Loc} {ty:Option (TypeId×Nat)} (h:kC w l ty) (hR:∀ cs T fz,w.heap[l.R]?=some (.cells cs T fz)->∃ Bh fz',w'.heap[l.R]?=some (.cells Bh T fz')):kC w' l ty:=by
 cases ty with
 |none=>trivial
 |some p=>
  obtain ⟨T,k⟩:=p;obtain ⟨⟨cs,fz,h1⟩,h2,h3⟩:=h;exact ⟨hR cs T fz h1,h2,h3⟩
theorem kC.same {w w':World} {l:Loc} {ty:Option (TypeId×Nat)} (h:kC w l ty) (hR:w'.heap[l.R]?=w.heap[l.R]?):kC w' l ty:=
 h.of fun cs T fz h=>⟨cs,fz,by rw [hR];exact h⟩
def lg (g:Gx) (w:World) (l:Loc):AB->Prop
 | .dead=>True
 | .cells rows sz ty=>kC w l ty/\0<sz/\l.sz=sz/\l.o+rows.length * sz<=l.e/\∃ cs,Row g w l.R l.e cs/\
  ∀ r row,rows[r]?=some row->row.length=sz/\Oe g w cs (l.o+r * sz) row
 | .map es=>∃ Wf clock,w.heap[l.R]?=some (.map Wf clock)/\¬ g.Z l.R/\Wf.size=es.length/\
  ∀ (i:Nat) (k x:AV) (e:MapEntry),es[i]?=some (k,x)->Wf[i]?=some e->AV.isKey k=true/\Ya g w k e.key/\Ya g w x e.val
 | .loop n _ env ps assign body st NS=>∃ r:Loop,w.heap[l.R]?=some (.loop r)/\¬ g.Z l.R/\r.state=st/\r.pending=NS/\r.params.toList=ps/\r.assign=assign/\r.body=body/\r.tmps.size=n/\
  ∀ (t:Nat) (a:AV),get (ve env) t= .v a->Ya g w a (r.tmps.getD t undef)
def Sd:AB->Bool
 | .dead=>false
 |_=>true
def live (g:Gx) (H:AH) (b:Nat):Prop:=g.D b/\∃ x,H.bl[b]?=some x/\Sd x=true
structure Rn (g:Gx) (w:World) (i:Nat) (row:List AV):Prop where
 v:Ya g w (.Bd row) (.pointer (some ⟨i,0,none⟩))
 n:∃ cs T f,w.heap[i]?=some (.cells cs T f)/\cs.size=row.length
theorem Rn.mono {g g':Gx} {w w':World} (h:g.Le w g' w') {i:Nat} {row:List AV} (hx:Rn g w i row):Rn g' w' i row:=by
 obtain ⟨h1,cs,T,f,h2,h3⟩:=hx;refine ⟨h1.mono h,cs,T,f,?_,h3⟩;cases h1 with
 |Bd _ _ vs hs hz=>rw [(h.Z _ hz).2];exact h2
structure Ub (G:Nat->Option (List AV)) (g:Gx) (w:World) (H:AH):Prop where
 La:∀ i row,G i=some row->Rn g w i row
 Ae:∀ b,g.D b->b<H.bl.length
 Oc:∀ b x,g.D b->H.bl[b]?=some x->lg g w (g.ρ b) x
 inj:∀ b b',live g H b->live g H b'->b≠b'->(g.ρ b).R≠(g.ρ b').R
 vt:∀ R,g.Z R->R<w.heap.size
theorem Ua {α:Type} {a:Array α} {i:Nat} {x:α} (h:a[i]?=some x):i<a.size:=by
 rcases Rb i a.size with h'|h'
 · exact h'
 · simp [Array.getElem?_eq_none h'] at h
theorem Ub.lt {G:Nat->Option (List AV)} {g:Gx} {w:World} {H:AH} (h:Ub G g w H) {b:Nat} (hb:live g H b):(g.ρ b).R<w.heap.size:=by
 obtain ⟨hd,x,hx,hl⟩:=hb;have:=h.Oc b x hd hx;cases x with
 |dead=>simp [Sd] at hl
 |cells rows sz ty=>obtain ⟨_,_,_,_,cs,⟨T,fz,hR,_⟩,_⟩:=this;exact Ua hR
 |map es=>obtain ⟨Wf,clock,hR,_⟩:=this;exact Ua hR
 |loop=>obtain ⟨r,hR,_⟩:=this;exact Ua hR
theorem Ub.fm {G:Nat->Option (List AV)} {g:Gx} {w:World} {H:AH} (h:Ub G g w H) {b:Nat} (hb:live g H b):¬ g.Z (g.ρ b).R:=by
 obtain ⟨hd,x,hx,hl⟩:=hb;have:=h.Oc b x hd hx;cases x with
 |dead=>simp [Sd] at hl
 |cells rows sz ty=>obtain ⟨_,_,_,_,cs,⟨T,fz,hR,_,_,hz⟩,_⟩:=this;exact hz
 |map es=>obtain ⟨Wf,clock,hR,hz,_⟩:=this;exact hz
 |loop=>obtain ⟨r,hR,hz,_⟩:=this;exact hz
def Fp (g:Gx) (H:AH) (R:Nat):Prop:=∃ b,live g H b/\(g.ρ b).R=R
structure Ext (g:Gx) (w:World) (H:AH) (g':Gx) (w':World) (H':AH):Prop where
 D:∀ b,g.D b->g'.D b/\g'.ρ b=g.ρ b
 Ay:∀ b,g'.D b->g.D b\/H.bl.length<=b
 Z:∀ R,g.Z R->g'.Z R
 gq:∀ R,g'.Z R->g.Z R\/Fp g H R\/w.heap.size<=R
 fp:∀ R,Fp g' H' R->Fp g H R\/w.heap.size<=R
 qk:∀ R,R<w.heap.size->¬ Fp g H R->w'.heap[R]?=w.heap[R]?
 size:w.heap.size<=w'.heap.size
 len:H.bl.length<=H'.bl.length
 wm:H'.wm=H.wm
 quiet:∀ b,b<H.wm->b<H.bl.length->H'.bl[b]?=H.bl[b]?
 still:∀ b,b<H.wm->live g H b->w'.heap[(g.ρ b).R]?=w.heap[(g.ρ b).R]?
 io:w'.os=w.os/\w'.output=w.output
theorem Ub.le {G:Nat->Option (List AV)} {g:Gx} {w:World} {H:AH} {g':Gx} {w':World} {H':AH} (hw:Ub G g w H) (h:Ext g w H g' w' H'):g.Le w g' w':=
 ⟨h.D,fun R hR=>⟨h.Z R hR,h.qk R (hw.vt R hR) (fun ⟨_,hb,e⟩=>hw.fm hb (e ▸ hR))⟩⟩
theorem Ext.refl (g:Gx) (w:World) (H:AH):Ext g w H g w H:=
 ⟨fun _ h=>⟨h,rfl⟩,fun _ h=> .inl h,fun _ h=>h,fun _ h=> .inl h,fun _ h=> .inl h,fun _ _ _=>rfl,oa _,oa _,rfl,fun _ _ _=>rfl,fun _ _ _=>rfl,⟨rfl,rfl⟩⟩
theorem Ext.trans {g g1 g2:Gx} {w w1 w2:World} {H H1 H2:AH} (h:Ext g w H g1 w1 H1) (h':Ext g1 w1 H1 g2 w2 H2):Ext g w H g2 w2 H2 where
 D b hb:=⟨(h'.D b (h.D b hb).1).1,(h'.D b (h.D b hb).1).2.trans (h.D b hb).2⟩
 Ay b hb:=(h'.Ay b hb).elim (h.Ay b) fun hl=> .inr (Ib h.len hl)
 Z R hR:=h'.Z R (h.Z R hR)
 gq R hR:=by
  rcases h'.gq R hR with h1|h1|h1
  · exact h.gq R h1
  · exact .inr (h.fp R h1)
  · exact .inr (.inr (Ib h.size h1))
 fp R hR:=by
  rcases h'.fp R hR with h1|h1
  · exact h.fp R h1
  · exact .inr (Ib h.size h1)
 qk R hR hn:=by
  refine (h'.qk R (Za hR h.size) fun hf=> ?_).trans (h.qk R hR hn);rcases h.fp R hf with h1|h1
  · exact hn h1
  · omega
 size:=Ib h.size h'.size
 len:=Ib h.len h'.len
 wm:=h'.wm.trans h.wm
 quiet b hb hl:=(h'.quiet b (h.wm ▸ hb) (Za hl h.len)).trans (h.quiet b hb hl)
 still b hb hv:=by
  have nc:b<H.bl.length:=by obtain ⟨_,x,hx,_⟩:=hv;rcases Rb b H.bl.length with h|h;exact h;simp [mb h] at hx
  have e:=(h.D b hv.1).2;have x5:live g1 H1 b:=⟨(h.D b hv.1).1,by rw [h.quiet b hb nc];exact hv.2⟩;have h1:=h'.still b (h.wm ▸ hb) x5;rw [e] at h1;exact h1.trans (h.still b hb hv)
 io:=⟨h'.io.1.trans h.io.1,h'.io.2.trans h.io.2⟩
structure Fx where
 E:Nat->Prop
 φ:Nat->Nat
 W:Nat->Prop
structure Jd (g:Gx) (f:Fx) (w:World) (H:AH) (F:List (List AV)):Prop where
 Ae:∀ i,f.E i->i<F.length
 Oc:∀ i row,f.E i->F[i]?=some row->∃ cs,Row g w (f.φ i) row.length cs/\Oe g w cs 0 row
 inj:∀ i j,f.E i->f.E j->i≠j->f.φ i≠f.φ j
 apart:∀ i,f.E i->¬ Fp g H (f.φ i)
theorem Jd.lt {g:Gx} {f:Fx} {w:World} {H:AH} {F:List (List AV)} (h:Jd g f w H F) {i:Nat} (hi:f.E i):f.φ i<w.heap.size:=by
 have hl:=h.Ae i hi;obtain ⟨cs,⟨T,fz,hR,_⟩,_⟩:=h.Oc i F[i] hi (by simp [hl]);exact Ua hR
theorem Jd.fm {g:Gx} {f:Fx} {w:World} {H:AH} {F:List (List AV)} (h:Jd g f w H F) {i:Nat} (hi:f.E i):¬ g.Z (f.φ i):=by
 have hl:=h.Ae i hi;obtain ⟨cs,⟨T,fz,hR,_,_,hz⟩,_⟩:=h.Oc i F[i] hi (by simp [hl]);exact hz
def we (g:Gx) (f:Fx) (w:World):SV->Value->Prop
 | .v a,v=>Ya g w a v
 | .loc i c,v=>f.E i/\v= .pointer (some ⟨f.φ i,c,none⟩)
structure kg (g:Gx) (f:Fx) (w:World) (H:AH) (F:List (List AV)) (g':Gx) (f':Fx) (w':World) (H':AH) (F':List (List AV)):Prop where
 D:∀ b,g.D b->g'.D b/\g'.ρ b=g.ρ b
 Ay:∀ b,g'.D b->g.D b\/H.bl.length<=b
 Z:∀ R,g.Z R->g'.Z R
 gq:∀ R,g'.Z R->g.Z R\/Fp g H R\/w.heap.size<=R
 fp:∀ R,Fp g' H' R->Fp g H R\/w.heap.size<=R
 E:∀ i,f.E i->f'.E i/\f'.φ i=f.φ i
 G4:∀ i,f'.E i->f.E i\/F.length<=i
 KG:∀ i,f'.E i->¬ f.E i->w.heap.size<=f'.φ i
 qk:∀ R,R<w.heap.size->¬ Fp g H R->(∀ i,f.E i->f.φ i≠R)->w'.heap[R]?=w.heap[R]?
 size:w.heap.size<=w'.heap.size
 len:H.bl.length<=H'.bl.length
 Ti:F.length<=F'.length
 wm:H'.wm=H.wm
 quiet:∀ b,b<H.wm->b<H.bl.length->H'.bl[b]?=H.bl[b]?
 still:∀ b,b<H.wm->live g H b->w'.heap[(g.ρ b).R]?=w.heap[(g.ρ b).R]?
 W:∀ i,f.E i->(f'.W i↔f.W i)
 C4:∀ i,f'.E i->¬ f.E i->f'.W i
 own:∀ i,f.E i->¬ f.W i->w'.heap[f.φ i]?=w.heap[f.φ i]?
 io:w'.os=w.os/\w'.output=w.output
theorem kg.le {G:Nat->Option (List AV)} {g g':Gx} {f f':Fx} {w w':World} {H H':AH} {F F':List (List AV)} (hw:Ub G g w H) (hf:Jd g f w H F) (h:kg g f w H F g' f' w' H' F'):g.Le w g' w':=
 ⟨h.D,fun R hR=>⟨h.Z R hR,h.qk R (hw.vt R hR) (fun ⟨_,hb,e⟩=>hw.fm hb (e ▸ hR)) (fun _ hi e=>hf.fm hi (e ▸ hR))⟩⟩
theorem kg.refl (g:Gx) (f:Fx) (w:World) (H:AH) (F:List (List AV)):kg g f w H F g f w H F:=
 ⟨fun _ h=>⟨h,rfl⟩,fun _ h=> .inl h,fun _ h=>h,fun _ h=> .inl h,fun _ h=> .inl h,fun _ h=>⟨h,rfl⟩,fun _ h=> .inl h,fun _ h h'=>absurd h h',fun _ _ _ _=>rfl,oa _,oa _,oa _,rfl,fun _ _ _=>rfl,fun _ _ _=>rfl,fun _ _=>Iff.rfl,fun _ h h'=>absurd h h',fun _ _ _=>rfl,⟨rfl,rfl⟩⟩
theorem kg.trans {g g1 g2:Gx} {f f1 f2:Fx} {w w1 w2:World} {H H1 H2:AH} {F F1 F2:List (List AV)}
  (h:kg g f w H F g1 f1 w1 H1 F1) (h':kg g1 f1 w1 H1 F1 g2 f2 w2 H2 F2):kg g f w H F g2 f2 w2 H2 F2 where
 D b hb:=⟨(h'.D b (h.D b hb).1).1,(h'.D b (h.D b hb).1).2.trans (h.D b hb).2⟩
 Ay b hb:=(h'.Ay b hb).elim (h.Ay b) fun hl=> .inr (Ib h.len hl)
 Z R hR:=h'.Z R (h.Z R hR)
 gq R hR:=by
  rcases h'.gq R hR with h1|h1|h1
  · exact h.gq R h1
  · exact .inr (h.fp R h1)
  · exact .inr (.inr (Ib h.size h1))
 fp R hR:=by
  rcases h'.fp R hR with h1|h1
  · exact h.fp R h1
  · exact .inr (Ib h.size h1)
 E i hi:=⟨(h'.E i (h.E i hi).1).1,(h'.E i (h.E i hi).1).2.trans (h.E i hi).2⟩
 G4 i hi:=(h'.G4 i hi).elim (h.G4 i) fun hl=> .inr (Ib h.Ti hl)
 KG i hi hn:=by
  by_cases h1:f1.E i
  · rw [(h'.E i h1).2];exact h.KG i h1 hn
  · exact Ib h.size (h'.KG i hi h1)
 qk R hR hn hi:=by
  refine (h'.qk R (Za hR h.size) (fun hf=> ?_) (fun i h1 e=> ?_)).trans (h.qk R hR hn hi)
  · rcases h.fp R hf with h1|h1
    · exact hn h1
    · omega
  · by_cases h2:f.E i
    · exact hi i h2 ((h.E i h2).2 ▸ e)
    · have:=h.KG i h1 h2;omega
 size:=Ib h.size h'.size
 len:=Ib h.len h'.len
 Ti:=Ib h.Ti h'.Ti
 wm:=h'.wm.trans h.wm
 quiet b hb hl:=(h'.quiet b (h.wm ▸ hb) (Za hl h.len)).trans (h.quiet b hb hl)
 still b hb hv:=by
  have nc:b<H.bl.length:=by obtain ⟨_,x,hx,_⟩:=hv;rcases Rb b H.bl.length with h|h;exact h;simp [mb h] at hx
  have e:=(h.D b hv.1).2;have x5:live g1 H1 b:=⟨(h.D b hv.1).1,by rw [h.quiet b hb nc];exact hv.2⟩;have h1:=h'.still b (h.wm ▸ hb) x5;rw [e] at h1;exact h1.trans (h.still b hb hv)
 W i hi:=(h'.W i (h.E i hi).1).trans (h.W i hi)
 C4 i hi hn:=by
  by_cases h1:f1.E i
  · exact (h'.W i h1).2 (h.C4 i h1 hn)
  · exact h'.C4 i hi h1
 own i hi hn:=by
  have e:=(h.E i hi).2;have h1:=h'.own i (h.E i hi).1 (fun hw=>hn ((h.W i hi).1 hw));rw [e] at h1;exact h1.trans (h.own i hi hn)
 io:=⟨h'.io.1.trans h.io.1,h'.io.2.trans h.io.2⟩
theorem we.mono {g g':Gx} {f f':Fx} {w w':World} (h:g.Le w g' w') (hE:∀ i,f.E i->f'.E i/\f'.φ i=f.φ i) {x:SV} {v:Value} (hx:we g f w x v):we g' f' w' x v:=by
 cases x with
 |v a=>exact Ya.mono h hx
 |loc i c=>obtain ⟨h1,h2⟩:=hx;exact ⟨(hE i h1).1,by rw [(hE i h1).2];exact h2⟩
def Pe (g:Gx) (f:Fx) (w:World) (e:List (Nat×SV)) (tmps:Array Value):Prop:=
 ∀ t,we g f w (get e t) (tmps.getD t undef)
def Marks (g:Gx) (w:World):List Deferred->Prop
 |[]=>True
 |d::ds=>(∃ r,d.target= .collected r/\w.heap[r]?=some (.deferred (some []))/\¬ g.Z r/\∀ d'∈ds,d'.target≠ .collected r)/\Marks g w ds
def mC (w:World) (ds ds':List Deferred):Prop:=∀ d∈ds',d∈ds\/∃ r,d.target= .collected r/\w.heap.size<=r
theorem mC.refl (w:World) (ds:List Deferred):mC w ds ds:=fun _ h=> .inl h
theorem mC.trans {w w1:World} {d d1 d2:List Deferred} (hs:w.heap.size<=w1.heap.size) (h:mC w d d1) (h':mC w1 d1 d2):mC w d d2:=fun x hx=>by
 rcases h' x hx with h1|⟨r,h1,h2⟩
 · exact h x h1
 · exact .inr ⟨r,h1,by omega⟩
theorem Ub.vq {G:Nat->Option (List AV)} {g:Gx} {w:World} {H:AH} (h:Ub G g w H) {r:Nat} {x:Option (List Deferred)} (hr:w.heap[r]?=some (.deferred x)):¬ Fp g H r:=by
 rintro ⟨b,⟨hd,y,hy,hl⟩,rfl⟩
 have:=h.Oc b y hd hy;cases y with
 |dead=>simp [Sd] at hl
 |cells rows sz ty=>obtain ⟨_,_,_,_,cs,⟨T,fz,hR,_⟩,_⟩:=this;rw [hr] at hR;simp at hR
 |map es=>obtain ⟨Wf,clock,hR,_⟩:=this;rw [hr] at hR;simp at hR
 |loop=>obtain ⟨q,hR,_⟩:=this;rw [hr] at hR;simp at hR
theorem Jd.vq {g:Gx} {f:Fx} {w:World} {H:AH} {F:List (List AV)} (h:Jd g f w H F) {r:Nat} {x:Option (List Deferred)} (hr:w.heap[r]?=some (.deferred x)) {i:Nat} (hi:f.E i):f.φ i≠r:=by
 rintro rfl
 have hl:=h.Ae i hi;obtain ⟨cs,⟨T,fz,hR,_⟩,_⟩:=h.Oc i F[i] hi (by simp [hl]);rw [hr] at hR;simp at hR
theorem Marks.step {G:Nat->Option (List AV)} {g g':Gx} {f f':Fx} {w w':World} {H H':AH} {F F':List (List AV)} (hw:Ub G g w H) (hf:Jd g f w H F) (h:kg g f w H F g' f' w' H' F'):∀ {ds:List Deferred},Marks g w ds->Marks g' w' ds
 |[],_=>trivial
 |d::ds,⟨⟨r,h1,h2,h3,h4⟩,hm⟩=>⟨⟨r,h1,by
  rw [h.qk r (Ua h2) (hw.vq h2) (fun i hi=>hf.vq h2 hi)];exact h2,fun hz=>by
  rcases h.gq r hz with hz|hz|hz
  · exact h3 hz
  · exact hw.vq h2 hz
  · have:=Ua h2;omega,h4⟩,Marks.step hw hf h hm⟩
structure St (G:Nat->Option (List AV)) (g:Gx) (f:Fx) (s:S) (n:Nat) (a:Act) (w:World):Prop where
 hw:Ub G g w s.H
 hf:Jd g f w s.H s.F
 he:Pe g f w s.e a.tmps
 hn:a.tmps.size=n
 hm:Marks g w a.defers
 hW:∀ i,f.E i->f.W i
theorem kg.Xaa {g g':Gx} {f f':Fx} {w w':World} {H H':AH} {F F':List (List AV)} (h:kg g f w H F g' f' w' H' F') (hW:∀ i,f.E i->f.W i):∀ i,f'.E i->f'.W i:=fun i hi=>by
 by_cases h1:f.E i
 · exact (h.W i h1).2 (hW i h1)
 · exact h.C4 i hi h1
end Go.V
namespace Go.V
open Go
theorem pick {α β:Type} (Q:Nat->α->β->Prop):∀ l:List α,(∀ (j:Nat) (x:α),l[j]?=some x->∃ v,Q j x v)->
  ∃ vs:List β,vs.length=l.length/\∀ (j:Nat) (x:α) (v:β),l[j]?=some x->vs[j]?=some v->Q j x v:=by
 intro l;induction l generalizing Q with
 |nil=>intro _;exact ⟨[],rfl,fun j x v h=>by simp at h⟩
 |cons a l ih=>
  intro h;obtain ⟨v0,h0⟩:=h 0 a rfl;obtain ⟨vs,hl,hv⟩:=ih (fun j=>Q (j+1)) (fun j x hx=>h (j+1) x (by simpa using hx));refine ⟨v0::vs,by simp [hl],fun j x v hx Pr=> ?_⟩;cases j with
  |zero=>simp at hx Pr;subst hx;subst Pr;exact h0
  |succ j=>exact hv j x v (by simpa using hx) (by simpa using Pr)
theorem jg (R o n:Nat):(⟨R,o,none⟩:Addr).add n=⟨R,o+n,none⟩:=by
 unfold Addr.add;split<;>simp_all
theorem fk {a:Addr} (h:a.spot=none):a=⟨a.block,a.off,none⟩:=by cases a;simp_all
def Jl (g:Gx) (w:World) (R base:Nat) (row:List AV):Prop:=
 ∀ (j:Nat) (x:AV),row[j]?=some x->∃ v,w.cell? ⟨R,base+j,none⟩=some v/\v.oneCell'=true/\Ya g w x v
theorem Jl.OJ {g:Gx} {w:World} {R at_:Nat} {cs:Array Value} {row:List AV} {T:TypeId} {fz:Nat×Nat} (hR:w.heap[R]?=some (.cells cs T fz)) (h:Oe g w cs at_ row):Jl g w R at_ row:=by
 intro j x hx;obtain ⟨v,h1,h2,h3⟩:=h j x hx;exact ⟨v,by rw [cell_of_row w R _ cs T fz hR];exact h1,h2,h3⟩
section
variable {A:oh} {g:Gx} {w:World}
theorem sq {t:TypeId} {b:Bool} (h:isAgg A t=some b):(Go.isAgg t).run A.P w= .ok b w:=by
 unfold isAgg at h;unfold Go.isAgg;split at h
 · simp at h;subst h;rename_i fs hu;simp [run_underlying hu]
 · simp at h;subst h;rename_i n e hu;simp [run_underlying hu]
 · rename_i d hn1 hn2 hu;simp at h;subst h;simp only [Sem.run_bind,run_underlying hu,Result.andThen_ok,Sem.run_pure]
 · simp at h
theorem Mc {t:TypeId} {n:Nat} (h:size A t=some n):(sizeOf t).run A.P w= .ok n w:=by
 unfold size at h;cases hi:A.P.info? t with
 |none=>simp [hi] at h
 |some i=>simp [hi] at h;simp [sizeOf,typeInfo,hi,h]
theorem Ko {t:TypeId} {row:List AV} {c R base:Nat} {x:AV} (hp:part A t row c=some x) (hc:Jl g w R base row):
  ∃ v,(loadVar t ⟨R,base+c,none⟩).run A.P w= .ok v w/\Ya g w x v:=by
 unfold part at hp;cases ZE:isAgg A t with
 |none=>simp [ZE] at hp
 |some b=>
  simp only [ZE,da] at hp;cases b with
  |true=>
   simp only at hp;cases hn:size A t with
   |none=>simp [hn] at hp
   |some n=>
    simp only [hn,da] at hp;split at hp
    case isFalse=>simp at hp
    case isTrue hle=>
     simp only [yc] at hp;subst hp;obtain ⟨vs,hl,hv⟩:=pick (fun j x v=>w.cell? ⟨R,base+c+j,none⟩=some v/\v.oneCell'=true/\Ya g w x v) ((row.drop c).take n)
       (fun j x hx=>by
        rw [Ab] at hx;split at hx
        · rw [Dc] at hx;have:=hc (c+j) x hx
          rwa [<- ud] at this
        · simp at hx)
     have hlen:((row.drop c).take n).length=n:=by simp;omega
     have Zc:∀ (j:Nat) (v:Value),vs[j]?=some v->∃ x,((row.drop c).take n)[j]?=some x:=fun j v hjv=>by
       have:j<vs.length:=by rcases Rb j vs.length with h|h;exact h;simp [mb h] at hjv
       exact ⟨_,ya (hl ▸ this)⟩
     have hlc:=run_loadCells_list (P:=A.P) w ⟨R,base+c,none⟩ vs (fun j v hjv=>by
       rw [jg];obtain ⟨x,hx⟩:=Zc j v hjv;exact (hv j x v hx hjv).1)
     refine ⟨.agg vs.toArray,?_,.agg _ vs (by rw [hl]) (fun v Pr=> ?_) (fun i x v hx hi=>(hv i x v hx hi).2.2)⟩
     · simp only [loadVar,Sem.run_bind,sq ZE,Result.andThen_ok,if_true,Mc hn];rw [show n=vs.length by rw [hl,hlen],hlc];rfl
     · obtain ⟨i,hi⟩:=Yd Pr;obtain ⟨x,hx⟩:=Zc i v hi;exact (hv i x v hx hi).2.1
  |false=>
   simp only at hp;obtain ⟨v,h1,h2,h3⟩:=hc c x hp;refine ⟨v,?_,h3⟩;simp [loadVar,sq ZE,h1]
theorem We (P:Program) (R o:Nat) (T:TypeId) (fz:Nat×Nat):∀ (vs:List Value) (i:Nat) (cur:Array Value) (w:World),w.heap[R]?=some (.cells cur T fz)->o+i+vs.length<=cur.size->
  (∀ j,j<vs.length->¬ (fz.1<=o+i+j/\o+i+j<fz.2))->(∀ v∈vs,v.oneCell'=true)->
  (storeCells ⟨R,o,none⟩ vs i).run P w= .ok () (w.setRow R (cur.toList.take (o+i)++vs++cur.toList.drop (o+i+vs.length)).toArray)
 |[],i,cur,w,hg,_,_,_=>by
  simp only [storeCells,Qm,ek,td,List.take_append_drop,Array.toArray_toList];rw [setRow_self w R cur T fz hg];rfl
 |v::rest,i,cur,w,hg,hl,hf,h1=>by
  have hi:o+i<cur.size:=by simp at hl;omega
  have Zh:w.cell? ⟨R,o+i,none⟩=some cur[o+i]:=by simp [World.cell?,hg,hi]
  have yah:w.frozen? ⟨R,o+i,none⟩=false:=by
   have:=hf 0 (by simp);simp only [World.frozen?,hg,td] at this ⊢
   simpa using this
  have Wb:(Go.store ((⟨R,o,none⟩:Addr).add i) v).run P w= .ok () (w.setRow R (cur.setIfInBounds (o+i) v)):=by
   rw [jg,run_store P w _ v _ (h1 v (by simp)),Zh];simp [yah,setCell_eq_setRow w R (o+i) cur T fz v hg]
  have ih:=We P R o T fz rest (i+1) (cur.setIfInBounds (o+i) v) (w.setRow R (cur.setIfInBounds (o+i) v)) (setRow_heap w R cur _ T _ hg) (by simp at hl ⊢;omega)
   (fun j hj=>by have:=hf (j+1) (by simp;omega);rwa [show o+i+(j+1)=o+(i+1)+j by omega] at this) (fun x hx=>h1 x (by simp [hx]))
  simp only [storeCells,Sem.run_bind,Wb,Result.andThen_ok,ih,setRow_setRow];congr 3;have e:=list_seg_step cur.toList (o+i) v rest (by simp at hl ⊢;omega)
  simpa [Array.toList_setIfInBounds,ud] using e
theorem setRow_size (w:World) (R:Nat) (cs:Array Value):(w.setRow R cs).heap.size=w.heap.size:=by simp [World.setRow]
end
end Go.V
namespace Go.V
open Go
section
variable {G:Nat->Option (List AV)} {g:Gx} {f:Fx} {w:World} {H:AH} {F:List (List AV)}
theorem Gx.Le.heap {w':World} (h:w'.heap=w.heap):g.Le w g w':=⟨fun _ hb=>⟨hb,rfl⟩,fun _ hR=>⟨hR,by rw [h]⟩⟩
theorem Ub.heap {w':World} (hw:Ub G g w H) (h:w'.heap=w.heap):Ub G g w' H where
 La i row hg:=(hw.La i row hg).mono (.heap h)
 Ae:=hw.Ae
 Oc b x hd hx:=by
  have:=hw.Oc b x hd hx;cases x with
  |dead=>trivial
  |cells rows sz ty=>
   obtain ⟨h0,h1,h2,h3,cs,⟨T,fz,hR,h4⟩,h5⟩:=this;exact ⟨h0.same (by rw [h]),h1,h2,h3,cs,⟨T,fz,by rw [h];exact hR,h4⟩,fun r row hr=>⟨(h5 r row hr).1,(h5 r row hr).2.mono (.heap h)⟩⟩
  |map es=>
   obtain ⟨Wf,clock,hR,hz,hl,h5⟩:=this;exact ⟨Wf,clock,by rw [h];exact hR,hz,hl,fun i k x e he hc=>⟨(h5 i k x e he hc).1,(h5 i k x e he hc).2.1.mono (.heap h),(h5 i k x e he hc).2.2.mono (.heap h)⟩⟩
  |loop=>obtain ⟨r,hR,h1,h2,h3,h4,h5,h6,h7,h8⟩:=this;exact ⟨r,by rw [h];exact hR,h1,h2,h3,h4,h5,h6,h7,fun t a ha=>(h8 t a ha).mono (.heap h)⟩
 inj:=hw.inj
 vt R hR:=by rw [h];exact hw.vt R hR
theorem Jd.heap {w':World} (hf:Jd g f w H F) (h:w'.heap=w.heap):Jd g f w' H F where
 Ae:=hf.Ae
 Oc i row hi hr:=by
  obtain ⟨cs,⟨T,fz,hR,h4⟩,h5⟩:=hf.Oc i row hi hr;exact ⟨cs,⟨T,fz,by rw [h];exact hR,h4⟩,h5.mono (.heap h)⟩
 inj:=hf.inj
 apart:=hf.apart
theorem kg.heap {w':World} (h:w'.heap=w.heap) (ov:w'.os=w.os/\w'.output=w.output:=by first|exact ⟨rfl,rfl⟩|assumption):kg g f w H F g f w' H F:=
 ⟨fun _ h=>⟨h,rfl⟩,fun _ h=> .inl h,fun _ h=>h,fun _ h=> .inl h,fun _ h=> .inl h,fun _ h=>⟨h,rfl⟩,fun _ h=> .inl h,fun _ h h'=>absurd h h',fun _ _ _ _=>by rw [h],by rw [h];exact oa _,oa _,oa _,rfl,fun _ _ _=>rfl,fun _ _ _=>by rw [h],fun _ _=>Iff.rfl,fun _ h h'=>absurd h h',fun _ _ _=>by rw [h],ov⟩
theorem Mi (H:AH) (b b':Nat) (x:AB):(Ma H b x).bl[b']?=if b=b' then (if b<H.bl.length then some x else none) else H.bl[b']?:=by
 simp only [Ma,Kb]
theorem Ak {b b':Nat} {x:AB} (h:live g (Ma H b x) b'):(b'=b/\Sd x=true)\/(b'≠b/\live g H b'):=by
 obtain ⟨hd,y,hy,hl⟩:=h;rw [Mi] at hy;split at hy
 · rename_i e;split at hy
   · simp at hy;subst hy;exact .inl ⟨e.symm,hl⟩
   · simp at hy
 · rename_i e;exact .inr ⟨fun e'=>e e'.symm,hd,y,hy,hl⟩
theorem lg.other {w':World} {l:Loc} {x:AB} (hle:g.Le w g w') (hR:Sd x=true->w'.heap[l.R]?=w.heap[l.R]?) (h:lg g w l x):lg g w' l x:=by
 cases x with
 |dead=>trivial
 |cells rows sz ty=>
  obtain ⟨h0,h1,h2,h3,cs,⟨T,fz,vx,h4⟩,h5⟩:=h;exact ⟨h0.same (hR rfl),h1,h2,h3,cs,⟨T,fz,by rw [hR rfl];exact vx,h4⟩,fun r row hr=>⟨(h5 r row hr).1,(h5 r row hr).2.mono hle⟩⟩
 |map es=>
  obtain ⟨Wf,clock,vx,hz,hl,h5⟩:=h;exact ⟨Wf,clock,by rw [hR rfl];exact vx,hz,hl,fun i k x e he hc=>⟨(h5 i k x e he hc).1,(h5 i k x e he hc).2.1.mono hle,(h5 i k x e he hc).2.2.mono hle⟩⟩
 |loop=>obtain ⟨r,vx,h1,h2,h3,h4,h5,h6,h7,h8⟩:=h;exact ⟨r,by rw [hR rfl];exact vx,h1,h2,h3,h4,h5,h6,h7,fun t a ha=>(h8 t a ha).mono hle⟩
theorem ue {w':World} {b:Nat} {x:AB} (hw:Ub G g w H) (hf:Jd g f w H F) (hb:live g H b) (Of:H.wm<=b)
   (Rf:w'.heap.size=w.heap.size) (Cd:∀ R,R≠(g.ρ b).R->w'.heap[R]?=w.heap[R]?) (hx:g.Le w g w'->lg g w' (g.ρ b) x) (ov:w'.os=w.os/\w'.output=w.output:=by first|exact ⟨rfl,rfl⟩|assumption):
   Ub G g w' (Ma H b x)/\Jd g f w' (Ma H b x) F/\kg g f w H F g f w' (Ma H b x) F:=by
 have hle:g.Le w g w':=⟨fun _ hb=>⟨hb,rfl⟩,fun R hR=>⟨hR,Cd R (fun e=>hw.fm hb (e ▸ hR))⟩⟩;have CB:∀ R,Fp g (Ma H b x) R->Fp g H R:=fun R ⟨b',hl,e⟩=>by
   rcases Ak hl with ⟨rfl,_⟩|⟨_,h⟩
   · exact ⟨_,hb,e⟩
   · exact ⟨_,h,e⟩
 refine ⟨⟨fun i row hg=>(hw.La i row hg).mono hle,fun b' hd=>by simpa [Ma] using hw.Ae b' hd,fun b' y hd hy=> ?_,fun b1 b2 h1 h2 Nc=> ?_,fun R hR=>by rw [Rf];exact hw.vt R hR⟩,
   ⟨hf.Ae,fun i row hi hr=> ?_,hf.inj,fun i hi h=>hf.apart i hi (CB _ h)⟩,?_⟩
 · rw [Mi] at hy;split at hy
   · rename_i e;subst e;split at hy
     · simp at hy;subst hy;exact hx hle
     · simp at hy
   · rename_i e;refine (hw.Oc b' y hd hy).other hle (fun hl=>Cd _ (hw.inj b' b ⟨hd,y,hy,hl⟩ hb (fun e'=>e e'.symm)))
 · have YB:live g H b1:=by rcases Ak h1 with ⟨rfl,_⟩|⟨_,h⟩<;>assumption
   have tZ:live g H b2:=by rcases Ak h2 with ⟨rfl,_⟩|⟨_,h⟩<;>assumption
   exact hw.inj b1 b2 YB tZ Nc
 · obtain ⟨cs,⟨T,fz,hR,h4⟩,h5⟩:=hf.Oc i row hi hr;exact ⟨cs,⟨T,fz,by rw [Cd _ (fun e=>hf.apart i hi ⟨b,hb,e.symm⟩)];exact hR,h4⟩,h5.mono hle⟩
 · refine ⟨fun _ h=>⟨h,rfl⟩,fun _ h=> .inl h,fun _ h=>h,fun _ h=> .inl h,fun R h=> .inl (CB R h),fun _ h=>⟨h,rfl⟩,fun _ h=> .inl h,fun _ h h'=>absurd h h',fun R _ hn _=>Cd R (fun e=>hn ⟨b,hb,e.symm⟩),by rw [Rf];exact oa _,by simp [Ma],oa _,rfl,fun b' zd _=> ?_,fun b' zd hv=>Cd _ (hw.inj b' b hv hb (by omega)),fun _ _=>Iff.rfl,fun _ h h'=>absurd h h',fun i hi _=>Cd _ (fun e=>hf.apart i hi ⟨b,hb,e.symm⟩),ov⟩;rw [Mi,if_neg (by omega)]
theorem PO {w':World} {i:Nat} {row:List AV} (hw:Ub G g w H) (hf:Jd g f w H F) (hi:f.E i) (hWi:f.W i)
   (Rf:w'.heap.size=w.heap.size) (Cd:∀ R,R≠f.φ i->w'.heap[R]?=w.heap[R]?) (hx:g.Le w g w'->∃ cs,Row g w' (f.φ i) row.length cs/\Oe g w' cs 0 row) (ov:w'.os=w.os/\w'.output=w.output:=by first|exact ⟨rfl,rfl⟩|assumption):
   Ub G g w' H/\Jd g f w' H (F.set i row)/\kg g f w H F g f w' H (F.set i row):=by
 have hle:g.Le w g w':=⟨fun _ hb=>⟨hb,rfl⟩,fun R hR=>⟨hR,Cd R (fun e=>hf.fm hi (e ▸ hR))⟩⟩;refine ⟨⟨fun i row hg=>(hw.La i row hg).mono hle,hw.Ae,fun b y hd hy=>(hw.Oc b y hd hy).other hle (fun hl=>Cd _ (fun e=>hf.apart i hi ⟨b,⟨hd,y,hy,hl⟩,e⟩)),hw.inj,fun R hR=>by rw [Rf];exact hw.vt R hR⟩,
   ⟨fun j hj=>by simpa using hf.Ae j hj,fun j Jb hj hr=> ?_,hf.inj,hf.apart⟩,?_⟩
 · rw [Kb] at hr;split at hr
   · rename_i e;subst e;split at hr
     · simp at hr;subst hr;exact hx hle
     · simp at hr
   · rename_i e;obtain ⟨cs,⟨T,fz,hR,h4⟩,h5⟩:=hf.Oc j Jb hj hr;exact ⟨cs,⟨T,fz,by rw [Cd _ (fun e'=>e ((Cf fun Nc=>hf.inj i j hi hj Nc e'.symm)))];exact hR,h4⟩,h5.mono hle⟩
 · exact ⟨fun _ h=>⟨h,rfl⟩,fun _ h=> .inl h,fun _ h=>h,fun _ h=> .inl h,fun _ h=> .inl h,fun _ h=>⟨h,rfl⟩,fun _ h=> .inl h,fun _ h h'=>absurd h h',fun R _ _ hn=>Cd R (fun e=>hn i hi e.symm),by rw [Rf];exact oa _,oa _,by simp,rfl,fun _ _ _=>rfl,fun b _ hv=>Cd _ (fun e=>hf.apart i hi ⟨b,hv,e⟩),fun _ _=>Iff.rfl,fun _ h h'=>absurd h h',fun j hj hn=>Cd _ (fun e=>hn ((Cf fun Nc=>hf.inj j i hj hi (fun e'=>Nc (e' ▸ hWi)) e))),ov⟩
def Gx.add (g:Gx) (b:Nat) (l:Loc):Gx:={ g with D:=fun i=>g.D i\/i=b,ρ:=fun i=>if i=b then l else g.ρ i }
def Fx.add (f:Fx) (i R:Nat):Fx:={ E:=fun j=>f.E j\/j=i,φ:=fun j=>if j=i then R else f.φ j,W:=fun j=>f.W j\/j=i }
theorem xk (H:AH) (x:AB) (b:Nat):(push H x).bl[b]?=if b<H.bl.length then H.bl[b]? else if b=H.bl.length then some x else none:=by
 simp only [push];rcases Nat.lt_trichotomy b H.bl.length with h|h|h
 · simp [h,Fa]
 · subst h;simp
 · rw [Ka (by omega),if_neg (by omega),if_neg (by omega)];exact mb (by simp;omega)
theorem Xt {l:Loc} {x:AB} {b:Nat} (Fah:∀ b,g.D b->b<H.bl.length) (h:live (g.add H.bl.length l) (push H x) b):b=H.bl.length\/live g H b:=by
 obtain ⟨hd,y,hy,hl⟩:=h;rcases hd with hd|hd
 · right;have:=Fah b hd;rw [xk,if_pos this] at hy;exact ⟨hd,y,hy,hl⟩
 · exact .inl hd
theorem tg {l:Loc} {b n:Nat} (h:b≠n):(g.add n l).ρ b=g.ρ b:=by simp [Gx.add,h]
theorem Xf {l:Loc} {n:Nat}:(g.add n l).ρ n=l:=by simp [Gx.add]
theorem lg.le {g g':Gx} {w w':World} {l:Loc} {x:AB} (hle:g.Le w g' w') (hR:Sd x=true->w'.heap[l.R]?=w.heap[l.R]?) (hz:Sd x=true->¬ g'.Z l.R) (h:lg g w l x):lg g' w' l x:=by
 cases x with
 |dead=>trivial
 |cells rows sz ty=>
  obtain ⟨h0,h1,h2,h3,cs,⟨T,fz,vx,h4,h6,_⟩,h5⟩:=h;exact ⟨h0.same (hR rfl),h1,h2,h3,cs,⟨T,fz,by rw [hR rfl];exact vx,h4,h6,hz rfl⟩,fun r row hr=>⟨(h5 r row hr).1,(h5 r row hr).2.mono hle⟩⟩
 |map es=>
  obtain ⟨Wf,clock,vx,_,hl,h5⟩:=h;exact ⟨Wf,clock,by rw [hR rfl];exact vx,hz rfl,hl,fun i k x e he hc=>⟨(h5 i k x e he hc).1,(h5 i k x e he hc).2.1.mono hle,(h5 i k x e he hc).2.2.mono hle⟩⟩
 |loop=>obtain ⟨r,vx,h1,h2,h3,h4,h5,h6,h7,h8⟩:=h;exact ⟨r,by rw [hR rfl];exact vx,hz rfl,h2,h3,h4,h5,h6,h7,fun t a ha=>(h8 t a ha).mono hle⟩
theorem yq {w':World} {x:AB} {l:Loc} (hw:Ub G g w H) (hf:Jd g f w H F) (Rf:w.heap.size<=w'.heap.size)
   (hR:l.R=w.heap.size) (nc:w.heap.size<w'.heap.size) (Cd:∀ R,R<w.heap.size->w'.heap[R]?=w.heap[R]?)
   (hx:g.Le w (g.add H.bl.length l) w'->lg (g.add H.bl.length l) w' l x) (ov:w'.os=w.os/\w'.output=w.output:=by first|exact ⟨rfl,rfl⟩|assumption):
   Ub G (g.add H.bl.length l) w' (push H x)/\Jd (g.add H.bl.length l) f w' (push H x) F/\kg g f w H F (g.add H.bl.length l) f w' (push H x) F:=by
 have hold:∀ b,g.D b->(g.add H.bl.length l).ρ b=g.ρ b:=fun b hb=>tg (by have:=hw.Ae b hb;omega)
 have hle:g.Le w (g.add H.bl.length l) w':=⟨fun b hb=>⟨.inl hb,hold b hb⟩,fun R h=>⟨h,Cd R (hw.vt R h)⟩⟩;have CB:∀ R,Fp (g.add H.bl.length l) (push H x) R->Fp g H R\/R=w.heap.size:=fun R ⟨b,hb,e⟩=>by
   rcases Xt hw.Ae hb with rfl|hb
   · right;rw [<- e,Xf,hR]
   · left;exact ⟨b,hb,by rw [<- e,hold b hb.1]⟩
 refine ⟨⟨fun i row hg=>(hw.La i row hg).mono hle,fun b hb=> ?_,fun b y hd hy=> ?_,fun b b' hb zd Nc=> ?_,fun R h=>Za (hw.vt R h) Rf⟩,
   ⟨hf.Ae,fun i row hi hr=> ?_,hf.inj,fun i hi h=> ?_⟩,?_⟩
 · rcases hb with hb|rfl
   · have:=hw.Ae b hb;simp [push];omega
   · simp [push]
 · rcases hd with hd|rfl
   · have B9:=hw.Ae b hd;rw [xk,if_pos B9] at hy;rw [hold b hd];exact (hw.Oc b y hd hy).le hle (fun hl=>Cd _ (hw.lt ⟨hd,y,hy,hl⟩)) (fun hl=>hw.fm ⟨hd,y,hy,hl⟩)
   · rw [xk,if_neg (by omega),if_pos rfl] at hy;simp at hy;subst hy;rw [Xf];exact hx hle
 · rcases Xt hw.Ae hb with rfl|h1<;>rcases Xt hw.Ae zd with rfl|h2
   · exact absurd rfl Nc
   · rw [Xf,hold _ h2.1,hR];have:=hw.lt h2;omega
   · rw [Xf,hold _ h1.1,hR];have:=hw.lt h1;omega
   · rw [hold _ h1.1,hold _ h2.1];exact hw.inj _ _ h1 h2 Nc
 · obtain ⟨cs,⟨T,fz,vx,h4⟩,h5⟩:=hf.Oc i row hi hr;exact ⟨cs,⟨T,fz,by rw [Cd _ (hf.lt hi)];exact vx,h4⟩,h5.mono hle⟩
 · rcases CB _ h with h|h
   · exact hf.apart i hi h
   · have:=hf.lt hi;omega
 · refine ⟨fun b hb=>⟨.inl hb,hold b hb⟩,fun b hb=>hb.elim .inl (fun e=> .inr (by omega)),fun _ h=>h,fun _ h=> .inl h,
     fun R h=>(CB R h).elim .inl (fun e=> .inr (by omega)),fun _ h=>⟨h,rfl⟩,fun _ h=> .inl h,fun _ h h'=>absurd h h',
     fun R hR _ _=>Cd R hR,Rf,by simp [push],oa _,rfl,fun b _ hl=> ?_,fun b _ hv=>Cd _ (hw.lt hv),fun _ _=>Iff.rfl,fun _ h h'=>absurd h h',fun i hi _=>Cd _ (hf.lt hi),ov⟩
   rw [xk,if_pos hl]
theorem qn {w':World} (hw:Ub G g w H) (hf:Jd g f w H F) (Rf:w.heap.size<=w'.heap.size) (Cd:∀ R,R<w.heap.size->w'.heap[R]?=w.heap[R]?) (ov:w'.os=w.os/\w'.output=w.output:=by first|exact ⟨rfl,rfl⟩|assumption):
   Ub G g w' H/\Jd g f w' H F/\kg g f w H F g f w' H F:=by
 have hle:g.Le w g w':=⟨fun b hb=>⟨hb,rfl⟩,fun R h=>⟨h,Cd R (hw.vt R h)⟩⟩;refine ⟨⟨fun i row hg=>(hw.La i row hg).mono hle,hw.Ae,fun b y hd hy=>(hw.Oc b y hd hy).le hle (fun hl=>Cd _ (hw.lt ⟨hd,y,hy,hl⟩)) (fun hl=>hw.fm ⟨hd,y,hy,hl⟩),hw.inj,fun R h=>Za (hw.vt R h) Rf⟩,
   ⟨hf.Ae,fun i row hi hr=> ?_,hf.inj,hf.apart⟩,?_⟩
 · obtain ⟨cs,⟨T,fz,vx,h4⟩,h5⟩:=hf.Oc i row hi hr;exact ⟨cs,⟨T,fz,by rw [Cd _ (hf.lt hi)];exact vx,h4⟩,h5.mono hle⟩
 · exact ⟨fun b hb=>⟨hb,rfl⟩,fun b hb=> .inl hb,fun _ h=>h,fun _ h=> .inl h,fun R h=> .inl h,fun i hi=>⟨hi,rfl⟩,
    fun i hi=> .inl hi,fun i hi hn=>absurd hi hn,fun R hR _ _=>Cd R hR,Rf,oa _,oa _,rfl,fun _ _ _=>rfl,fun b _ hv=>Cd _ (hw.lt hv),fun _ _=>Iff.rfl,fun _ h h'=>absurd h h',fun i hi _=>Cd _ (hf.lt hi),ov⟩
theorem SZ {w':World} {row:List AV} (hw:Ub G g w H) (hf:Jd g f w H F)
   (nc:w.heap.size<w'.heap.size) (Cd:∀ R,R<w.heap.size->w'.heap[R]?=w.heap[R]?)
   (hx:g.Le w g w'->∃ cs,Row g w' w.heap.size row.length cs/\Oe g w' cs 0 row) (ov:w'.os=w.os/\w'.output=w.output:=by first|exact ⟨rfl,rfl⟩|assumption):
   Ub G g w' H/\Jd g (f.add F.length w.heap.size) w' H (F++[row])/\kg g f w H F g (f.add F.length w.heap.size) w' H (F++[row]):=by
 have hle:g.Le w g w':=⟨fun b hb=>⟨hb,rfl⟩,fun R h=>⟨h,Cd R (hw.vt R h)⟩⟩;have hold:∀ i,f.E i->(f.add F.length w.heap.size).φ i=f.φ i:=fun i hi=>by have:=hf.Ae i hi;simp [Fx.add,Nat.ne_of_lt this]
 refine ⟨⟨fun i row hg=>(hw.La i row hg).mono hle,hw.Ae,fun b y hd hy=>(hw.Oc b y hd hy).le hle (fun hl=>Cd _ (hw.lt ⟨hd,y,hy,hl⟩)) (fun hl=>hw.fm ⟨hd,y,hy,hl⟩),hw.inj,fun R h=>Nat.lt_trans (hw.vt R h) nc⟩,
   ⟨fun i hi=> ?_,fun i Jb hi hr=> ?_,fun i j hi hj Nc=> ?_,fun i hi h=> ?_⟩,?_⟩
 · rcases hi with hi|rfl
   · have:=hf.Ae i hi;simp;omega
   · simp
 · rcases hi with hi|rfl
   · have hl:=hf.Ae i hi;rw [Fa hl] at hr;obtain ⟨cs,⟨T,fz,vx,h4⟩,h5⟩:=hf.Oc i Jb hi hr;rw [hold i hi];exact ⟨cs,⟨T,fz,by rw [Cd _ (hf.lt hi)];exact vx,h4⟩,h5.mono hle⟩
   · simp at hr;subst hr;have:(f.add F.length w.heap.size).φ F.length=w.heap.size:=by simp [Fx.add]
     rw [this];exact hx hle
 · have oe:(f.add F.length w.heap.size).φ F.length=w.heap.size:=by simp [Fx.add]
   rcases hi with hi|rfl<;>rcases hj with hj|rfl
   · rw [hold i hi,hold j hj];exact hf.inj i j hi hj Nc
   · rw [hold i hi,oe];have:=hf.lt hi;omega
   · rw [hold j hj,oe];have:=hf.lt hj;omega
   · exact absurd rfl Nc
 · rcases hi with hi|rfl
   · rw [hold i hi] at h;exact hf.apart i hi h
   · obtain ⟨b,hb,e⟩:=h;have:=hw.lt hb;simp [Fx.add] at e;omega
 · exact ⟨fun b hb=>⟨hb,rfl⟩,fun b hb=> .inl hb,fun _ h=>h,fun _ h=> .inl h,fun R h=> .inl h,fun i hi=>⟨.inl hi,hold i hi⟩,
     fun i hi=>hi.elim .inl (fun e=> .inr (by omega)),fun i hi hn=>by rcases hi with hi|rfl;exact absurd hi hn;simp [Fx.add],
     fun R hR _ _=>Cd R hR,Hr nc,oa _,by simp,rfl,fun _ _ _=>rfl,fun b _ hv=>Cd _ (hw.lt hv),fun i hi=>⟨fun h=>h.elim id (fun e=>by have:=hf.Ae i hi;omega),.inl⟩,fun i hi hn=> .inr (hi.resolve_left hn),fun i hi _=>Cd _ (hf.lt hi),ov⟩
end
end Go.V
namespace Go.V
open Go
def pJ (G:Nat->Option (List AV)) (g:Gx) (f:Fx) (w:World) (s s':S) (v:SV) (r:Result Next):Prop:=
 ∃ rv w' g' f',(r= .ok (.value rv) w'\/(r= .ok .skip w'/\rv=undef))/\Ub G g' w' s'.H/\Jd g' f' w' s'.H s'.F/\kg g f w s.H s.F g' f' w' s'.H s'.F/\we g' f' w' v rv
section
variable {A:oh} {g:Gx} {f:Fx} {w:World} {s:S} {a:Act}
theorem Ie {v:SV} {rv:Value} {r:Result Next} (hw:Ub A.La g w s.H) (hf:Jd g f w s.H s.F) (hr:r= .ok (.value rv) w) (hv:we g f w v rv):pJ A.La g f w s s v r:=
 ⟨rv,w,g,f,.inl hr,hw,hf,.refl _ _ _ _ _,hv⟩
theorem Vl {c:Value} {x:AV} (h:qe c=some x):Ya g w x c:=by
 unfold qe at h;split at h<;>simp at h<;>subst h
 · exact .bool _
 · exact .int _ _
 · exact .str _
 · exact .De
 · exact .Wa
 · exact .yf
 · exact .Te
 · exact .Cg
theorem me {x:Operand} {sv:SV} (h:operand A s.e x=some sv) (hw:Ub A.La g w s.H) (he:Pe g f w s.e a.tmps):we g f w sv (a.eval x):=by
 cases x with
 |tmp t=>simp [operand] at h;subst h;exact he t
 |const c=>
  simp only [operand,ia] at h;obtain ⟨x,hx,rfl⟩:=h;exact Vl hx
 |global gi=>
  simp only [operand,ia] at h;obtain ⟨row,hr,rfl⟩:=h;exact (hw.La gi row hr).v
 |func fid=>
  simp [operand] at h;subst h;exact .fn fid [] [] rfl (fun i x v h=>by simp at h)
theorem Pb {x:Operand} {av:AV} (h:val A s.e x=some av) (hw:Ub A.La g w s.H) (he:Pe g f w s.e a.tmps):Ya g w av (a.eval x):=by
 unfold val at h;split at h
 · rename_i av' ho;simp at h;subst h;exact me ho hw he
 · simp at h
theorem Sm:∀ {xs:List Operand} {l:List AV},Pg A s.e xs=some l->Ub A.La g w s.H->Pe g f w s.e a.tmps->
  l.length=xs.length/\∀ (i:Nat) (x:AV) (v:Value),l[i]?=some x->(xs.map a.eval)[i]?=some v->Ya g w x v
 |[],l,h,_,_=>by simp [Pg] at h;subst h;exact ⟨rfl,fun i x v h=>by simp at h⟩
 |x::xs,l,h,hw,he=>by
  simp only [Pg,aa] at h;obtain ⟨av,D1,l',Pf,h⟩:=h;simp at h;subst h;obtain ⟨h1,h2⟩:=Sm Pf hw he;refine ⟨by simp [h1],fun i y v hy hv=> ?_⟩;cases i with
  |zero=>simp at hy hv;subst hy;subst hv;exact Pb D1 hw he
  |succ i=>exact h2 i y v (by simpa using hy) (by simpa using hv)
theorem El {x:AV} {cs:List AV} {v:Value} (h:x.cells?=some cs) (hx:Ya g w x v):
  v.cells.size=cs.length/\(∀ u∈v.cells.toList,u.oneCell'=true)/\∀ (i:Nat) (y:AV) (u:Value),cs[i]?=some y->v.cells.toList[i]?=some u->Ya g w y u:=by
 have one:∀ {y:AV} {u:Value},Ya g w y u->u.oneCell'=true->u.cells= #[u]->cs=[y]->
   u.cells.size=cs.length/\(∀ z∈u.cells.toList,z.oneCell'=true)/\∀ (i:Nat) (y:AV) (z:Value),cs[i]?=some y->u.cells.toList[i]?=some z->Ya g w y z:=by
  intro y u hy h1 hc Si;subst Si;rw [hc];refine ⟨rfl,fun z hz=>by simp at hz;subst hz;exact h1,fun i y' z If hz=> ?_⟩;cases i with
  |zero=>simp at If hz;subst If;subst hz;exact hy
  |succ i=>simp at If
 cases hx
 case agg l vs hl h1 hr=>
  simp [AV.cells?] at h;subst h;refine ⟨by simp [Value.cells,hl],fun u hu=>h1 u (by simpa [Value.cells] using hu),fun i y u hy hu=>hr i y u hy (by simpa [Value.cells] using hu)⟩
 case Qb=>simp [AV.cells?] at h
 case Rc=>simp [AV.cells?] at h
 case lits sz a=>
  simp only [AV.cells?,yc] at h;exact one (.lits sz a) rfl rfl h.symm
 all_goals
  simp only [AV.cells?,yc] at h;refine one ?_ rfl rfl h.symm;constructor<;>assumption
theorem kC.setRow {w:World} {l:Loc} {ty:Option (TypeId×Nat)} (h:kC w l ty) (Bh:Array Value):kC (w.setRow l.R Bh) l ty:=
 h.of fun cs T fz hR=>⟨Bh,fz,setRow_heap w l.R cs Bh T fz hR⟩
theorem XI (hf:Jd g f w s.H s.F) {i:Nat} {row:List AV} (hi:f.E i) (hr:s.F[i]?=some row):Jl g w (f.φ i) 0 row:=by
 obtain ⟨cs,⟨T,fz,hR,_⟩,h5⟩:=hf.Oc i row hi hr;exact .OJ hR h5
theorem fC (hw:Ub A.La g w s.H) {b r:Nat} {row:List AV} (hb:g.D b) (hr:rowAt s.H b r=some row):Jl g w (g.ρ b).R ((g.ρ b).o+r * (g.ρ b).sz) row:=by
 unfold rowAt at hr;split at hr
 · rename_i rows sz ty hx;obtain ⟨_,_,ae,_,cs,⟨T,fz,hR,_⟩,h5⟩:=hw.Oc b _ hb hx;rw [ae];exact .OJ hR (h5 r row hr).2
 · simp at hr
theorem rG {row:List AV} {p:Addr} (h:Ya g w (.Bd row) (.pointer (some p))):Jl g w p.block p.off row/\p.spot=none:=by
 cases h with
 |Bd row a vs hs hz hc h1 hr=>
  exact ⟨fun j x hx=>⟨vs j,hc j (by rcases Rb j row.length with h|h;exact h;simp [mb h] at hx),h1 j (by rcases Rb j row.length with h|h;exact h;simp [mb h] at hx),hr j x hx⟩,hs⟩
theorem oH {t:TypeId} {p:SV} {x:AV} {pv:Value} (h:load A s t p=some x) (hw:Ub A.La g w s.H) (hf:Jd g f w s.H s.F) (hp:we g f w p pv):
   ∃ ad v,pv= .pointer (some ad)/\(loadVar t ad).run A.P w= .ok v w/\Ya g w x v:=by
 unfold load at h;split at h
 · rename_i i c;simp only [aa] at h;obtain ⟨row,hr,hx⟩:=h;obtain ⟨hi,rfl⟩:=hp;obtain ⟨v,h1,h2⟩:=Ko hx (XI hf hi hr);rw [de] at h1;exact ⟨_,v,rfl,h1,h2⟩
 · rename_i b r c;simp only [aa] at h;obtain ⟨row,hr,hx⟩:=h;cases hp with
   |ptr _ _ _ hb=>
    obtain ⟨v,h1,h2⟩:=Ko hx (fC hw hb hr);exact ⟨_,v,rfl,h1,h2⟩
 · rename_i row;have jJ:Ya g w (.Bd row) pv:=hp;cases jJ with
   |Bd _ a vs hs hz hc h1 hr=>
    obtain ⟨hca,jf⟩:=rG (.Bd row a vs hs hz hc h1 hr);obtain ⟨v,h1,h2⟩:=Ko h hca;rw [td,<- fk jf] at h1;exact ⟨_,v,rfl,h1,h2⟩
 · simp at h
theorem fA {t:TypeId} {p:SV} {x:AV} {pv:Value} (h:load A s t p=some x) (hw:Ub A.La g w s.H) (hf:Jd g f w s.H s.F) (hp:we g f w p pv):
  ∃ v,(Instr.loadAt t pv).run A.P w= .ok v w/\Ya g w x v:=by
 obtain ⟨ad,v,rfl,h1,h2⟩:=oH h hw hf hp;exact ⟨v,by simp [Instr.loadAt,Instr.sureAddr,h1],h2⟩
theorem Vm {g:Gx} {w:World} {cs:Array Value} {base c:Nat} {row Jb new:List AV} {vs:List Value} (h:kf row c new=some Jb) (hl:vs.length=new.length)
  (hr:Oe g w cs base row) (h1:∀ u∈vs,u.oneCell'=true) (hv:∀ (i:Nat) (y:AV) (u:Value),new[i]?=some y->vs[i]?=some u->Ya g w y u) (Si:base+row.length<=cs.size):
  Jb.length=row.length/\Oe g w (cs.toList.take (base+c)++vs++cs.toList.drop (base+c+vs.length)).toArray base Jb:=by
 unfold kf at h;split at h
 case isFalse=>simp at h
 case isTrue hle=>
  simp at h;subst h;refine ⟨by simp;omega,fun j x hx=> ?_⟩;simp only [Xb];have jZ:(cs.toList.take (base+c)).length=base+c:=by simp;omega
  by_cases hj:j<c
  · rw [Fa (by simp;omega),Ab,if_pos hj] at hx;obtain ⟨v,e1,e2,e3⟩:=hr j x hx;refine ⟨v,?_,e2,e3⟩;rw [od,Fa (by omega),Ab,if_pos (by omega)]
    simpa using e1
  · rw [Ka (by simp;omega)] at hx;have kK:min c row.length=c:=by omega
    simp only [dc,kK] at hx;rw [od,Ka (by omega),jZ];by_cases hj2:j-c<new.length
    · rw [Fa hj2] at hx;have nc:j-c<vs.length:=by omega
      refine ⟨vs[j-c],?_,h1 _ (List.getElem_mem nc),hv (j-c) x _ hx (ya nc)⟩;rw [Fa (by omega),show base+j-(base+c)=j-c by omega,ya nc]
    · rw [Ka (by omega),Dc,show c+new.length+(j-c-new.length)=j by omega] at hx;obtain ⟨v,e1,e2,e3⟩:=hr j x hx;refine ⟨v,?_,e2,e3⟩;rw [Ka (by omega),Dc,show base+c+vs.length+(base+j-(base+c)-vs.length)=base+j by omega]
      simpa using e1
theorem Jt {g:Gx} {w:World} {cs:Array Value} {base UD lo:Nat} {row:List AV} {vs:List Value} (hr:Oe g w cs UD row) (nv:base<=lo) (OM:lo+vs.length<=base+row.length) (Gag:UD+row.length<=base\/base+row.length<=UD) (Si:base+row.length<=cs.size):
   Oe g w (cs.toList.take lo++vs++cs.toList.drop (lo+vs.length)).toArray UD row:=by
 intro j x hx;have hj:j<row.length:=by rcases Rb j row.length with h|h;exact h;simp [mb h] at hx
 obtain ⟨v,e1,e2,e3⟩:=hr j x hx;refine ⟨v,?_,e2,e3⟩;have jZ:(cs.toList.take lo).length=lo:=by simp;omega
 simp only [Xb,od];rcases Gag with h|h
 · rw [Fa (by omega),Ab,if_pos (by omega)];simpa using e1
 · rw [Ka (by omega),jZ,Ka (by omega),Dc,show lo+vs.length+(UD+j-lo-vs.length)=UD+j by omega]
   simpa using e1
theorem Row.set {g:Gx} {w:World} {R e:Nat} {cs Bh:Array Value} (h:Row g w R e cs) (hs:Bh.size=e):Row g (w.setRow R Bh) R e Bh:=by
 obtain ⟨T,fz,hR,ae,Tk,hz⟩:=h;exact ⟨T,fz,setRow_heap w R cs Bh T fz hR,hs,Tk,hz⟩
theorem PG {t:TypeId} {p:SV} {x:AV} {pv xv:Value} {s':S} (h:store A s t p x=some s') (hw:Ub A.La g w s.H) (hf:Jd g f w s.H s.F) (hp:we g f w p pv) (hx:Ya g w x xv) (hWr:∀ i c,p= .loc i c->f.W i):
  ∃ w',(Instr.storeAt t pv xv).run A.P w= .ok () w'/\Ub A.La g w' s'.H/\Jd g f w' s'.H s'.F/\kg g f w s.H s.F g f w' s'.H s'.F/\s'.e=s.e:=by
 unfold store at h;simp only [aa] at h;obtain ⟨cs,Si,n,hn,h⟩:=h;split at h
 case isFalse=>simp at h
 case isTrue hlen=>
  obtain ⟨ae,h1,Bm⟩:=El Si hx;have CP:xv.cells.toList.length=cs.length:=by simpa using ae
  have Wd:∀ (R o:Nat),(Instr.storeAt t (.pointer (some ⟨R,o,none⟩)) xv).run A.P w=(storeCells ⟨R,o,none⟩ xv.cells.toList).run A.P w:=by
    intro R o;simp [Instr.storeAt,Instr.sureAddr,storeVar,Mc hn,ae,hlen]
  split at h
  · rename_i i c;simp only [aa] at h;obtain ⟨row,hr,Jb,jf,h⟩:=h;simp at h;subst h;obtain ⟨hi,rfl⟩:=hp;obtain ⟨Uw,dU,Pj⟩:=hf.Oc i row hi hr;obtain ⟨T,fz,hR,mJ,Tk,hz⟩:=dU;have EH:c+cs.length<=row.length:=by unfold kf at jf;split at jf;assumption;simp at jf
    obtain ⟨Pf,M0⟩:=Vm jf CP Pj h1 Bm (by omega);rw [de] at M0;have Wb:=We A.P (f.φ i) c T fz xv.cells.toList 0 Uw w hR (by omega) (fun j hj=>by rw [td];exact Tk _ (by omega)) h1;simp only [td] at Wb;refine ⟨_,(Wd _ _).trans Wb,?_⟩;have xH:(Uw.toList.take c++xv.cells.toList++Uw.toList.drop (c+xv.cells.toList.length)).toArray.size=Jb.length:=by
     simp only [Di,Ud,dc,Kl,Ge] at *;omega
    obtain ⟨q1,q2,q3⟩:=PO (i:=i) (row:=Jb) (w':=w.setRow (f.φ i) (Uw.toList.take c++xv.cells.toList++Uw.toList.drop (c+xv.cells.toList.length)).toArray) hw hf hi (hWr i c rfl) (setRow_size _ _ _) (fun R Nc=>setRow_other _ _ _ _ Nc)
     (fun hle=>⟨_,by rw [Pf];exact Row.set (show Row g w (f.φ i) row.length Uw from ⟨T,fz,hR,mJ,Tk,hz⟩) (by rw [xH,Pf]),M0.mono hle⟩)
    exact ⟨q1,q2,q3,rfl⟩
  · rename_i b r c;split at h
    case h_2=>simp at h
    case h_1 rows sz ty hb=>
    split at h
    case isFalse=>simp at h
    case isTrue Of=>
     simp only [aa] at h;obtain ⟨row,hr,Jb,jf,h⟩:=h;simp at h;subst h;cases hp with
     |ptr _ _ _ hD=>
     have Td:live g s.H b:=⟨hD,_,hb,rfl⟩;obtain ⟨UE,zf,K0,zo,Uw,⟨T,fz,hR,mJ,Tk,hz⟩,Kc⟩:=hw.Oc b _ hD hb;obtain ⟨YC,Pj⟩:=Kc r row hr;have Mac:r<rows.length:=by rcases Rb r rows.length with h|h;exact h;simp [mb h] at hr
     have hmul:r * sz+sz<=rows.length * sz:=by rw [<- Gi];exact Vb _ Mac
     have EH:c+cs.length<=row.length:=by unfold kf at jf;split at jf;assumption;simp at jf
     obtain ⟨Pf,M0⟩:=Vm jf CP Pj h1 Bm (by omega);rw [K0] at *
     have Wb:=We A.P (g.ρ b).R ((g.ρ b).o+r * sz+c) T fz xv.cells.toList 0 Uw w hR (by omega) (fun j hj=>Tk _ (by omega)) h1;simp only [td] at Wb;refine ⟨_,(Wd _ _).trans Wb,?_⟩;obtain ⟨q1,q2,q3⟩:=ue (b:=b) (x:= .cells (rows.set r Jb) sz ty) (w':=w.setRow (g.ρ b).R (Uw.toList.take ((g.ρ b).o+r * sz+c)++xv.cells.toList++Uw.toList.drop ((g.ρ b).o+r * sz+c+xv.cells.toList.length)).toArray) hw hf Td Of (setRow_size _ _ _) (fun R Nc=>setRow_other _ _ _ _ Nc)
      (fun hle=>⟨UE.setRow _,zf,(hw.Oc b _ hD hb).2.2.1,by simpa using zo,_,Row.set (show Row g w (g.ρ b).R (g.ρ b).e Uw from ⟨T,fz,hR,mJ,Tk,hz⟩) (by simp only [Di,Ud,dc,Kl,Ge] at *;omega),fun r' wk oA=>by
       rw [Kb] at oA;split at oA
       · rename_i e;subst e;simp [Mac] at oA;subst oA;exact ⟨by rw [Pf];exact YC,M0.mono hle⟩
       · rename_i Nc;obtain ⟨BH,b9⟩:=Kc r' wk oA;refine ⟨BH,Oe.mono hle (Jt (base:=(g.ρ b).o+r * sz) b9 (by omega) (by omega) ?_ (by omega))⟩;rcases Yu Nc with h|h
         · right;have:r * sz+sz<=r' * sz:=by rw [<- Gi];exact Vb _ h
           omega
         · left;have:r' * sz+sz<=r * sz:=by rw [<- Gi];exact Vb _ h
           omega⟩)
     exact ⟨q1,q2,q3,rfl⟩
  · simp at h
end
end Go.V
namespace Go.V
open Go
section
variable {A:oh} {g:Gx} {f:Fx} {w:World} {s:S} {a:Act}
theorem VI {c:Value} {x:AV} (h:qe c=some x):c.oneCell'=true:=by
 unfold qe at h;split at h<;>simp at h<;>rfl
theorem Tg:∀ {vs:List Value} {cs:List AV},Lc vs=some cs->vs.length=cs.length/\(∀ u∈vs,u.oneCell'=true)/\∀ (i:Nat) (y:AV) (u:Value),cs[i]?=some y->vs[i]?=some u->Ya g w y u
 |[],cs,h=>by simp [Lc] at h;subst h;exact ⟨rfl,by simp,fun i y u h=>by simp at h⟩
 |v::vs,cs,h=>by
  simp only [Lc,aa] at h;obtain ⟨x,hx,xs,Fq,h⟩:=h;simp at h;subst h;obtain ⟨h1,h2,h3⟩:=Tg Fq;refine ⟨by simp [h1],fun u hu=> ?_,fun i y u hy hu=> ?_⟩
  · simp at hu;rcases hu with rfl|hu
    · exact VI hx
    · exact h2 u hu
  · cases i with
    |zero=>simp at hy hu;subst hy;subst hu;exact Vl hx
    |succ i=>exact h3 i y u (by simpa using hy) (by simpa using hu)
theorem vz {t:TypeId} {z:List AV} (h:zero A t=some z):∃ v,(zeroValue t).run A.P w= .ok v w/\v.cells.size=z.length/\(∀ u∈v.cells.toList,u.oneCell'=true)/\
  ∀ (i:Nat) (y:AV) (u:Value),z[i]?=some y->v.cells.toList[i]?=some u->Ya g w y u:=by
 unfold zero at h;cases hi:A.P.info? t with
 |none=>simp [hi] at h
 |some i=>
  cases hz:i.zero with
  |none=>simp [hi,hz] at h
  |some v=>
   simp [hi,hz] at h;obtain ⟨h1,h2,h3⟩:=Tg (g:=g) (w:=w) h;exact ⟨v,by simp [zeroValue,typeInfo,hi,hz],by simpa using h1,h2,h3⟩
theorem vk {g:Gx} {w:World} {cs:List AV} {vs:Array Value} (hl:vs.size=cs.length) (h1:∀ u∈vs.toList,u.oneCell'=true)
  (hr:∀ (i:Nat) (y:AV) (u:Value),cs[i]?=some y->vs.toList[i]?=some u->Ya g w y u):Oe g w vs 0 cs:=by
 intro c x hx;have hc:c<cs.length:=by rcases Rb c cs.length with h|h;exact h;simp [mb h] at hx
 have hv:vs.toList[c]?=some vs[c]:=by simp
 exact ⟨vs[c],by rw [de];simp,h1 _ (jb hv),hr c x _ hx hv⟩
theorem SD {cs:List AV} {v:Value} {t:TypeId} {Gg:Bool} (hw:Ub A.La g w s.H) (hf:Jd g f w s.H s.F) (hl:v.cells.size=cs.length) (h1:∀ u∈v.cells.toList,u.oneCell'=true)
  (hr:∀ (i:Nat) (y:AV) (u:Value),cs[i]?=some y->v.cells.toList[i]?=some u->Ya g w y u) (zf:0<cs.length\/Gg=true) {r:Result Next}
  (Wd:r= .ok (.value (.pointer (some ⟨w.heap.size,0,none⟩))) (w.alloc (.cells v.cells t))):
  pJ A.La g f w s (box s t Gg cs).2 (box s t Gg cs).1 r:=by
 have nc:w.heap.size<(w.alloc (.cells v.cells t)).heap.size:=by show w.heap.size<(w.heap.push _).size;simp
 have Cd:∀ R,R<w.heap.size->(w.alloc (.cells v.cells t)).heap[R]?=w.heap[R]?:=fun R hR=>heap_alloc_old w _ R hR
 have hzn:¬ g.Z w.heap.size:=fun hz=>Nat.lt_irrefl _ (hw.vt _ hz)
 cases Gg with
 |true=>
  have hx:g.Le w g (w.alloc (.cells v.cells t))->∃ Bh,Row g (w.alloc (.cells v.cells t)) w.heap.size cs.length Bh/\Oe g (w.alloc (.cells v.cells t)) Bh 0 cs:=fun hle=>
   ⟨v.cells,⟨t,(0,0),heap_alloc_new w _,hl,fun off _=>by simp,hzn⟩,(vk hl h1 hr).mono hle⟩
  obtain ⟨q1,q2,q3⟩:=SZ hw hf nc Cd hx;refine ⟨_,_,g,_,.inl Wd,q1,q2,q3,?_⟩;exact ⟨.inr rfl,by simp [Fx.add]⟩
 |false=>
  have hp:0<cs.length:=zf.resolve_right (by simp);have hx:g.Le w (g.add s.H.bl.length ⟨w.heap.size,0,cs.length,cs.length⟩) (w.alloc (.cells v.cells t))->
    lg (g.add s.H.bl.length ⟨w.heap.size,0,cs.length,cs.length⟩) (w.alloc (.cells v.cells t)) ⟨w.heap.size,0,cs.length,cs.length⟩ (.cells [cs] cs.length (some (t,2))):=fun hle=>
   ⟨⟨⟨_,_,heap_alloc_new w _⟩,fun _=>rfl,fun _=>rfl⟩,hp,rfl,by simp,v.cells,⟨t,(0,0),heap_alloc_new w _,hl,fun off _=>by simp,hzn⟩,fun r row Zc=>by
    cases r with
    |zero=>simp at Zc;subst Zc;exact ⟨rfl,by simpa using (vk hl h1 hr).mono hle⟩
    |succ r=>simp at Zc⟩
  obtain ⟨q1,q2,q3⟩:=yq (l:=⟨w.heap.size,0,cs.length,cs.length⟩) hw hf (Hr nc) rfl nc Cd hx;refine ⟨_,_,_,f,.inl Wd,q1,q2,q3,?_⟩;have:=Ya.ptr (g:=g.add s.H.bl.length ⟨w.heap.size,0,cs.length,cs.length⟩) (w:=w.alloc (.cells v.cells t)) s.H.bl.length 0 0 (.inr rfl)
  simpa [we,box,Xf] using this
theorem Vr {n:Nat} {p q:SV} {pv:Value} (h:ug n p=some q) (hp:we g f w p pv):∃ ad,pv= .pointer (some ad)/\we g f w q (.pointer (some (ad.add n))):=by
 unfold ug at h;split at h<;>simp at h<;>subst h
 · obtain ⟨hi,rfl⟩:=hp;exact ⟨_,rfl,hi,by rw [jg]⟩
 · rename_i b r c;cases hp with
   |ptr _ _ _ hb=>
    refine ⟨_,rfl,?_⟩;have:=Ya.ptr (g:=g) (w:=w) b r (c+n) hb
    simpa [we,jg,ud] using this
 · rename_i row;have jJ:Ya g w (.Bd row) pv:=hp;cases jJ with
   |Bd _ ad vs hs hz hc h1 hr=>
    refine ⟨ad,rfl,?_⟩;rw [fk hs,jg];refine Ya.Bd (row.drop n) ⟨ad.block,ad.off+n,none⟩ (fun c=>vs (n+c)) rfl hz (fun c Mm=> ?_) (fun c Mm=> ?_) (fun c x hx=> ?_)
    · have:=hc (n+c) (by simp at Mm;omega)
      simpa [ud] using this
    · exact h1 (n+c) (by simp at Mm;omega)
    · rw [Dc] at hx;exact hr (n+c) x hx
theorem BA {t:TypeId} {i:Nat} {fd:Field} (h:field? A t i=some fd):∃ fs,A.P.underlying t=some (.struct fs)/\fs[i]?=some fd:=by
 unfold field? at h;split at h
 · rename_i fs hu;exact ⟨fs,hu,h⟩
 · simp at h
theorem vy {t:TypeId} {i:Nat} {fd:Field} {p q:SV} {pv:Value} (FH:field? A t i=some fd) (ae:size A fd.type≠some 0) (AT:(size A fd.type).isSome=true) (h:ug fd.offset p=some q) (hp:we g f w p pv):
  ∃ v,(Instr.fieldAt t pv i).run A.P w= .ok v w/\we g f w q v:=by
 obtain ⟨fs,hu,hi⟩:=BA FH;obtain ⟨ad,rfl,hq⟩:=Vr h hp;refine ⟨_,?_,hq⟩;cases hn:size A fd.type with
 |none=>simp [hn] at AT
 |some n=>
  have Nc:n≠0:=fun e=>ae (by rw [hn,e])
  simp [Instr.fieldAt,run_underlying hu,hi,Instr.sureAddr,fieldPlace,Mc hn,Nc]
theorem cj {i:Int} {n:Nat} (h:va i n=true):0<=i/\i<(n:Int):=by simpa [va] using h
theorem mM (hw:Ub A.La g w s.H) {b n:Nat} (hd:g.D b) (h:some n=Aj s.H b):(g.ρ b).sz=n/\0<n:=by
 unfold Aj at h;split at h
 · rename_i rows sz ty hb;simp at h;subst h;obtain ⟨_,h1,h2,_⟩:=hw.Oc b _ hd hb;exact ⟨h2,h1⟩
 · simp at h
theorem Dg {i n sz c:Nat} (hi:i<n) (hc:c<sz):i * sz+c<n * sz:=by
 have:i * sz+sz<=n * sz:=by rw [<- Gi];exact Vb _ hi
 omega
theorem iy {t:TypeId} {p q:SV} {pv:Value} {k:IntKind} {n:Int} (h:indexAddr A s.H t p n=some q) (hw:Ub A.La g w s.H) (hp:we g f w p pv):
   ∃ v,(Instr.indexAt t pv (.int k n)).run A.P w= .ok v w/\we g f w q v:=by
 unfold indexAddr at h;split at h
 · rename_i len e hu;split at h
   case isFalse=>simp at h
   case isTrue hr=>
     obtain ⟨h0,h1⟩:=cj hr;simp only [aa] at h;obtain ⟨sz,ae,h⟩:=h;obtain ⟨ad,rfl,hq⟩:=Vr h hp;refine ⟨_,?_,hq⟩;simp [Instr.indexAt,asIntOf,run_underlying hu,Instr.sureAddr,h0,h1,Mc ae]
 · rename_i e hu;split at h
   · rename_i b r len;split at h
     case isFalse=>simp at h
     case isTrue hr=>
      simp only [aa] at h;obtain ⟨m,hm,h⟩:=h;split at h
      case isFalse=>simp at h
      case isTrue hn=>
      simp at h;subst h;obtain ⟨h0,h1⟩:=cj hr;have jJ:Ya g w (.sl b r len) pv:=hp;cases jJ with
      |sl _ _ _ cap hd hle zo=>
       obtain ⟨e1,e2⟩:=mM hw hd hm.symm;refine ⟨_,?_,Ya.ptr b (r+n.toNat) 0 hd⟩;have:(r+n.toNat) * m=r * m+n.toNat * m:=Ce _ _ _;simp [Instr.indexAt,asIntOf,run_underlying hu,h0,h1,Mc hn,jg,e1,this,ud]
      |TG=>omega
   · rename_i sz rows;split at h
     case isFalse=>simp at h
     case isTrue hr=>
      split at h
      case isFalse=>simp at h
      case isTrue ae=>
      obtain ⟨h0,h1⟩:=cj hr;simp only [ia] at h;obtain ⟨row,Zc,rfl⟩:=h;have jJ:Ya g w (.lit sz rows) pv:=hp;cases jJ with
      |lits _ ad=>simp at h1;omega
      |lit _ ad cap _ vs hs hc hz hl Zh S' Bm=>
       have hi:n.toNat<rows.length:=by omega
       have YC:=hl _ _ Zc;refine ⟨.pointer (some (ad.add (n.toNat * sz))),?_,?_⟩
       · simp [Instr.indexAt,asIntOf,run_underlying hu,h0,h1,Mc ae]
       · rw [fk hs,jg];refine Ya.Bd row ⟨ad.block,ad.off+n.toNat * sz,none⟩ (vs n.toNat) rfl (hz (by intro e;subst e;simp at hi)) (fun c Mm=>Zh _ c hi (by omega)) (fun c Mm=>S' _ c hi (by omega)) (fun c x hx=>Bm _ row c x Zc hx)
   · simp at h
 · simp at h
end
end Go.V
namespace Go.V
open Go
theorem eD (off:Nat):∀ (l:List Value) (st:Nat) (cells:Array Value),
  ((l.zipIdx st).foldl (fun cs p=>cs.setIfInBounds (off+p.2) p.1) cells).size=cells.size/\
  ∀ k,((l.zipIdx st).foldl (fun cs p=>cs.setIfInBounds (off+p.2) p.1) cells)[k]?=if off+st<=k/\k<off+st+l.length/\k<cells.size then l[k-(off+st)]? else cells[k]?
 |[],st,cells=>⟨rfl,fun k=>by rw [if_neg (by simp;omega)];rfl⟩
 |v::l,st,cells=>by
  obtain ⟨h1,h2⟩:=eD off l (st+1) (cells.setIfInBounds (off+st) v);simp only [List.zipIdx_cons,vB];refine ⟨by simpa using h1,fun k=> ?_⟩;rw [h2 k];simp only [Array.size_setIfInBounds,Array.getElem?_setIfInBounds,List.length_cons];by_cases hk:off+st=k
  · subst hk;rw [if_neg (by omega)];by_cases hs:off+st<cells.size
    · simp [hs]
    · rw [if_pos rfl];simp [hs,Array.getElem?_eq_none (uB hs)]
  · rw [if_neg hk];by_cases hr:off+(st+1)<=k/\k<off+(st+1)+l.length/\k<cells.size
    · rw [if_pos hr,if_pos (by omega),show k-(off+st)=(k-(off+(st+1)))+1 by omega,Ke]
    · rw [if_neg hr,if_neg (by omega)]
theorem Bx (off:Nat) (vs cells:Array Value) (h:off+vs.size<=cells.size):
   vs.zipIdx.foldl (fun cs (c,j)=>cs.setIfInBounds (off+j) c) cells=(cells.toList.take off++vs.toList++cells.toList.drop (off+vs.size)).toArray:=by
 have e:vs.zipIdx.foldl (fun cs (c,j)=>cs.setIfInBounds (off+j) c) cells=(vs.toList.zipIdx 0).foldl (fun cs p=>cs.setIfInBounds (off+p.2) p.1) cells:=by
   rw [<- Array.foldl_toList,Array.toList_zipIdx]
 rw [e];obtain ⟨h1,h2⟩:=eD off vs.toList 0 cells;apply Array.ext_getElem?;intro k;rw [h2 k];simp only [Xb,od,td,Ge];by_cases hk:k<off
 · rw [if_neg (by omega),Fa (by simp;omega),Ab,if_pos hk];simp
 · have ht:(cells.toList.take off).length=off:=by simp;omega
   rw [Ka (by omega),ht];by_cases dS:k<off+vs.size
   · rw [if_pos (by omega),Fa (by simp;omega)]
   · rw [if_neg (by omega),Ka (by simp;omega),Dc,Ge,show off+vs.size+(k-off-vs.size)=k by omega];simp
section
variable {A:oh} {g:Gx} {f:Fx} {w:World} {s:S} {a:Act}
def Xu (g:Gx) (w:World) (cs:List AV) (vs:Array Value):Prop:=vs.size=cs.length/\Oe g w vs 0 cs
theorem Xu.agg {cs:List AV} {vs:Array Value} (h:Xu g w cs vs):Ya g w (.agg cs) (.agg vs):=by
 have hv:vs=vs.toList.toArray:=by simp
 rw [hv];refine .agg cs vs.toList (by simpa using h.1) (fun u hu=> ?_) (fun i x v hx hi=> ?_)
 · obtain ⟨i,hi⟩:=Yd hu;have nc:i<cs.length:=by have:=h.1;rcases Rb i vs.toList.length with h'|h';simp at h';omega;simp [mb h'] at hi
   obtain ⟨v,h1,h2,_⟩:=h.2 i cs[i] (ya nc);simp at h1 hi;rw [h1] at hi;simp at hi;subst hi;exact h2
 · obtain ⟨v',h1,_,h3⟩:=h.2 i x hx;simp at h1 hi;rw [h1] at hi;simp at hi;subst hi;exact h3
theorem nh {cs:List AV} {v:Value} (h:Ya g w (.agg cs) v):∃ vs,v= .agg vs/\Xu g w cs vs:=by
 cases h with
 |agg _ vs hl h1 hr=>exact ⟨_,rfl,by simpa using hl,vk (by simpa using hl) (by simpa using h1) (by simpa using hr)⟩
theorem uv {t:TypeId} {z:List AV} (h:zero A t=some z):∃ v,(zeroValue t).run A.P w= .ok v w/\Xu g w z v.cells:=by
 obtain ⟨v,h1,h2,h3,h4⟩:=vz (g:=g) (w:=w) h;exact ⟨v,h1,h2,vk h2 h3 h4⟩
theorem Oi {t:TypeId} {cs:List AV} {vs:Array Value} {off:Nat} {x:AV} (h:part A t cs off=some x) (hr:Xu g w cs vs):∃ v,(Go.part t vs off).run A.P w= .ok v w/\Ya g w x v:=by
 unfold part at h;cases ZE:isAgg A t with
 |none=>simp [ZE] at h
 |some b=>
  simp only [ZE,da] at h;cases b with
  |true=>
   simp only [aa] at h;obtain ⟨n,hn,h⟩:=h;split at h
   case isFalse=>simp at h
   case isTrue hle=>
    simp at h;subst h;have ae:=hr.1;refine ⟨.agg (vs.extract off (off+n)),by simp [Go.part,sq ZE,Mc hn],Xu.agg ⟨by simp;omega,fun c x hx=> ?_⟩⟩;rw [Ab] at hx;split at hx
    case isFalse=>simp at hx
    case isTrue hc=>
     rw [Dc] at hx;obtain ⟨v,e1,e2,e3⟩:=hr.2 _ x hx;refine ⟨v,?_,e2,e3⟩;rw [de] at e1 ⊢;rw [Array.getElem?_extract,if_pos (by omega)];exact e1
  |false=>
   simp only at h;obtain ⟨v,e1,e2,e3⟩:=hr.2 off x h;rw [de] at e1;exact ⟨v,by simp [Go.part,sq ZE,e1],e3⟩
def Nw (g:Gx) (w:World):List (Nat×AV)->List (Nat×Value)->Prop
 |[],[]=>True
 |(i,x)::l,(j,v)::m=>i=j/\Ya g w x v/\Nw g w l m
 |_,_=>False
theorem Vo:∀ {ps:List (Nat×Operand)} {l:List (Nat×AV)},parts A s.e ps=some l->Ub A.La g w s.H->Pe g f w s.e a.tmps->Nw g w l (ps.map fun (i,x)=>(i,a.eval x))
 |[],l,h,_,_=>by simp [parts] at h;subst h;trivial
 |(i,x)::ps,l,h,hw,he=>by
  simp only [parts,aa] at h;obtain ⟨av,D1,l',Pf,h⟩:=h;simp at h;subst h;exact ⟨rfl,Pb D1 hw he,Vo Pf hw he⟩
theorem Rs {place:Nat->Option (Nat×Nat)}:∀ {l:List (Nat×AV)} {m:List (Nat×Value)} {row Jb:List AV} {cells:Array Value},Vf place row l=some Jb->Nw g w l m->Xu g w row cells->
  ∃ pg,Instr.fill place cells m=some pg/\Xu g w Jb pg
 |[],[],row,Jb,cells,h,_,hr=>by simp [Vf] at h;subst h;exact ⟨cells,rfl,hr⟩
 |(i,x)::l,(j,v)::m,row,Jb,cells,h,hp,hr=>by
  obtain ⟨rfl,hx,hp⟩:=hp;simp only [Vf,aa] at h;obtain ⟨⟨off,n⟩,VB,cs,Si,h⟩:=h;simp only at h;split at h
  case isFalse=>simp at h
  case isTrue hn=>
   simp only [aa] at h;obtain ⟨nf,jf,h⟩:=h;obtain ⟨c1,c2,c3⟩:=El Si hx;have EH:off+cs.length<=row.length:=by unfold kf at jf;split at jf;assumption;simp at jf
   have ae:=hr.1;obtain ⟨Pf,Pj⟩:=Vm (vs:=v.cells.toList) jf (by simpa using c1) hr.2 c2 c3 (by omega);simp only [de] at Pj;have ju:=Bx off v.cells cells (by omega);obtain ⟨pg,e1,e2⟩:=Rs (cells:=v.cells.zipIdx.foldl (fun cs (c,j)=>cs.setIfInBounds (off+j) c) cells) h hp (by
    rw [ju];refine ⟨?_,by simpa using Pj⟩;simp only [Di,Ud,dc,Kl,Ge];omega)
   refine ⟨pg,?_,e2⟩;simp only [Instr.fill,VB];rw [if_neg (by simp;omega)];exact e1
 |[],_::_,_,_,_,_,hp,_=>hp.elim
 |_::_,[],_,_,_,_,hp,_=>by cases ‹Nat×AV›;exact hp.elim
theorem Kr {α β:Type} (P:Program) (w:World) (fn:α->Sem β) (p:α->Option β):∀ l:List α,(∀ x∈l,∃ y,p x=some y/\(fn x).run P w= .ok y w)->
  ∃ ys:List β,(l.mapM fn).run P w= .ok ys w/\∀ i:Nat,ys[i]?=l[i]?.bind p
 |[],_=>⟨[],by simp,fun i=>by simp⟩
 |x::l,h=>by
  obtain ⟨y,h1,h2⟩:=h x (by simp);obtain ⟨ys,h3,h4⟩:=Kr P w fn p l (fun z hz=>h z (by simp [hz]));refine ⟨y::ys,by simp [List.mapM_cons,h2,h3],fun i=> ?_⟩;cases i with
  |zero=>simp [h1]
  |succ i=>simpa using h4 i
end
end Go.V
namespace Go.V
open Go
section
variable {A:oh} {g:Gx} {f:Fx} {w:World} {s:S} {a:Act}
theorem aJ {t:TypeId} {l:List (Nat×AV)} {m:List (Nat×Value)} {x:AV} (h:build A t l=some x) (hp:Nw g w l m):
   ∃ v,(Instr.build t m.toArray).run A.P w= .ok v w/\Ya g w x v:=by
 unfold build at h;simp only [aa] at h;obtain ⟨z,hz,h⟩:=h;obtain ⟨zv,XR,E0⟩:=uv (g:=g) (w:=w) hz;split at h
 · rename_i fs hu;split at h
   case isFalse=>simp at h
   case isTrue Af=>
    simp only [ia] at h;obtain ⟨row,Zc,rfl⟩:=h;obtain ⟨ps,Wd,pA⟩:=Kr A.P w (fun f:Field=>do pure (f.offset,<- sizeOf f.type)) (fun f=>(size A f.type).map fun n=>(f.offset,n)) fs.toList (fun fd FH=>by
     have:=Yb.1 Af fd FH;cases hn:size A fd.type with
     |none=>simp [hn] at this
     |some n=>exact ⟨(fd.offset,n),by simp,by simp [Mc hn]⟩)
    have n9:(fun i:Nat=>ps.toArray[i]?)=fun i:Nat=>fs[i]?.bind fun f:Field=>(size A f.type).map fun n=>(f.offset,n):=by
     funext i
     simpa using pA i
    rw [<- n9] at Zc;obtain ⟨pg,e1,e2⟩:=Rs Zc hp E0;refine ⟨.agg pg,?_,e2.agg⟩;have Lac:(fs.mapM (fun f:Field=>do pure (f.offset,<- sizeOf f.type))).run A.P w= .ok ps.toArray w:=by
     rw [Array.mapM_eq_mapM_toList];simp only [Sem.run_map,Wd,Result.andThen_ok]
    simp only [Instr.build,Sem.run_bind,XR,Result.andThen_ok,run_underlying hu,Lac,List.toList_toArray,e1];rfl
 · rename_i n e hu;simp only [aa,ia] at h;obtain ⟨sz,ae,row,Zc,rfl⟩:=h;obtain ⟨pg,e1,e2⟩:=Rs Zc hp E0;refine ⟨.agg pg,?_,e2.agg⟩;simp only [Instr.build,Sem.run_bind,XR,Result.andThen_ok,run_underlying hu,Mc ae,List.toList_toArray,e1];rfl
 · simp at h
theorem Ui {t e:TypeId} (h:elem? A t=some e):A.P.underlying t=some (.slice e):=by
 unfold elem? at h;split at h
 · rename_i e' hu;simp at h;subst h;exact hu
 · simp at h
def wj (g:Gx) (w:World) (sz:Nat) (rows:List (List AV)) (cs:Array Value):Prop:=
 rows.length * sz<=cs.size/\∀ (r:Nat) (row:List AV),rows[r]?=some row->row.length=sz/\Oe g w cs (r * sz) row
theorem Tw {ty:Option (TypeId×Nat)} {rows:List (List AV)} {sz:Nat} {cs:Array Value} {t:TypeId} {fz:Nat×Nat} {w':World} {v:AV} {rv:Value} {r:Result Next} (hw:Ub A.La g w s.H) (hf:Jd g f w s.H s.F) (zf:0<sz) (hr:wj g w sz rows cs)
  (jx:w'.heap=w.heap.push (.cells cs t fz)) (Tk:∀ off,off<cs.size->¬ (fz.1<=off/\off<fz.2))
  (hv:Ya (g.add s.H.bl.length ⟨w.heap.size,0,cs.size,sz⟩) w' v rv) (Wd:r= .ok (.value rv) w') (UE:ty=some (t,1)\/ty=none) (ov:w'.os=w.os/\w'.output=w.output:=by first|exact ⟨rfl,rfl⟩|assumption):
  pJ A.La g f w s { s with H:=push s.H (.cells rows sz ty) } (.v v) r:=by
 have nc:w.heap.size<w'.heap.size:=by rw [jx];simp
 have Cd:∀ R,R<w.heap.size->w'.heap[R]?=w.heap[R]?:=fun R hR=>by rw [jx];simp [Array.getElem?_push,Nat.ne_of_lt hR]
 have hzn:¬ g.Z w.heap.size:=fun hz=>Nat.lt_irrefl _ (hw.vt _ hz)
 obtain ⟨q1,q2,q3⟩:=yq (l:=⟨w.heap.size,0,cs.size,sz⟩) (x:= .cells rows sz ty) hw hf (Hr nc) rfl nc Cd (fun hle=>
  ⟨by
   rcases UE with rfl|rfl
   · exact ⟨⟨cs,fz,by rw [jx];simp⟩,fun _=>rfl,fun h=>by omega⟩
   · trivial,zf,rfl,by simpa using hr.1,cs,⟨t,fz,by rw [jx];simp,rfl,Tk,hzn⟩,fun r row Zc=>⟨(hr.2 r row Zc).1,by simpa using (hr.2 r row Zc).2.mono hle⟩⟩)
 exact ⟨rv,w',_,f,.inl Wd,q1,q2,q3,hv⟩
theorem Gs {rows:List (List AV)} {sz:Nat} {cs:Array Value} {t:TypeId} {fz:Nat×Nat} {w':World} {v:AV} {rv:Value} {r:Result Next} (hw:Ub A.La g w s.H) (hf:Jd g f w s.H s.F) (zf:0<sz) (hr:wj g w sz rows cs)
  (jx:w'.heap=w.heap.push (.cells cs t fz)) (Tk:∀ off,off<cs.size->¬ (fz.1<=off/\off<fz.2))
  (hv:Ya (g.add s.H.bl.length ⟨w.heap.size,0,cs.size,sz⟩) w' v rv) (Wd:r= .ok (.value rv) w') (ov:w'.os=w.os/\w'.output=w.output:=by first|exact ⟨rfl,rfl⟩|assumption):
  pJ A.La g f w s { s with H:=push s.H (.cells rows sz (some (t,1))) } (.v v) r:=
 Tw hw hf zf hr jx Tk hv Wd (.inl rfl)
theorem getElem?_lt' {α:Type} {l:List α} {i:Nat} {x:α} (h:l[i]?=some x):i<l.length:=by
 rcases Rb i l.length with h'|h'
 · exact h'
 · simp [mb h'] at h
theorem pC {z:List AV} {zv:Array Value} (n m:Nat) (h:Xu g w z zv) (zf:0<z.length) (hnm:n<=m):wj g w z.length (Ja n z) ((Zr (m * z.length)).map (zv[· %zv.size]!)):=by
 have ae:=h.1;refine ⟨by simp;exact Vb _ hnm,fun r row hr=> ?_⟩;rw [Ei] at hr;split at hr
 case isFalse=>simp at hr
 case isTrue hrn=>
  simp at hr;subst hr;refine ⟨rfl,fun c x hx=> ?_⟩;obtain ⟨v,e1,e2,e3⟩:=h.2 c x hx;rw [de] at e1;have hc:=getElem?_lt' hx;refine ⟨v,?_,e2,e3⟩;have nc:r * z.length+c<m * z.length:=Dg (by omega) hc;have fah:(r * z.length+c)%zv.size=c:=by rw [ae,Nat.mul_comm,Nat.mul_add_mod,Nat.mod_eq_of_lt hc]
  simp only [Array.getElem?_map,Array.getElem?_range,if_pos nc,Jc,fah];simp only [Array.getElem!_eq_getD,Th,e1,Option.getD_some]
theorem Nk {x:AV} {n:Int} {v:Value} (h:toInt x=some n) (hx:Ya g w x v):∃ k,v= .int k n:=by
 unfold toInt at h;split at h
 · simp at h;subst h;cases hx;exact ⟨_,rfl⟩
 · simp at h
theorem lB {t:TypeId} {n:Nat} (h:bytes A t=some n):∃ i,A.P.info? t=some i/\i.bytes=n:=by
 unfold bytes at h
 simpa using h
theorem wrap_small {n:Int} (h0:0<=n) (h1:n<9223372036854775808):IntKind.i64.wrap n=n:=by
 unfold IntKind.wrap;simp [IntKind.bits,IntKind.signed];omega
theorem mo {FY:List (List AV)} {sz:Nat}:∀ {l:List (Nat×AV)} {m:List (Nat×Value)} {rows Qd:List (List AV)} {cells:Array Value},He rows l=some Qd->Nw g w l m->wj g w sz rows cells->cells.size=rows.length * sz->
  ∃ pg,Instr.fill (fun i=>some (i * sz,sz)) cells m=some pg/\wj g w sz Qd pg/\Qd.length=rows.length/\pg.size=cells.size
 |[],[],rows,Qd,cells,h,_,hr,_=>by simp [He] at h;subst h;exact ⟨cells,rfl,hr,rfl,rfl⟩
 |(i,x)::l,(j,v)::m,rows,Qd,cells,h,hp,hr,Si=>by
  obtain ⟨rfl,hx,hp⟩:=hp;simp only [He,aa] at h;obtain ⟨cs,Iah,row,Zc,h⟩:=h;split at h
  case isFalse=>simp at h
  case isTrue hlen=>
   obtain ⟨c1,c2,c3⟩:=El Iah hx;have hi:=getElem?_lt' Zc;obtain ⟨YC,Pj⟩:=hr.2 i row Zc;have hmul:i * sz+sz<=rows.length * sz:=by rw [<- Gi];exact Vb _ hi
   have ju:=Bx (i * sz) v.cells cells (by omega);have oe:Oe g w (cells.toList.take (i * sz)++v.cells.toList++cells.toList.drop (i * sz+v.cells.size)).toArray (i * sz) cs:=by
    have jf:kf row 0 cs=some cs:=by
      unfold kf;rw [if_pos (by omega)];simp [List.drop_eq_nil_of_le,hlen]
    have:=(Vm (base:=i * sz) (vs:=v.cells.toList) jf (by simpa using c1) Pj c2 c3 (by omega)).2
    simpa using this
   have ae:(cells.toList.take (i * sz)++v.cells.toList++cells.toList.drop (i * sz+v.cells.size)).toArray.size=cells.size:=by
    simp only [Di,Ud,dc,Kl,Ge];omega
   obtain ⟨pg,e1,e2,e3,e4⟩:=mo (FY:=FY) (cells:=v.cells.zipIdx.foldl (fun cs (c,j)=>cs.setIfInBounds (i * sz+j) c) cells) (rows:=rows.set i cs) h hp (by
    rw [ju];refine ⟨by rw [ae];simpa using hr.1,fun r wk oA=> ?_⟩;rw [Kb] at oA;split at oA
    · rename_i e;subst e;simp [hi] at oA;subst oA;exact ⟨by omega,oe⟩
    · rename_i Nc;obtain ⟨BH,b9⟩:=hr.2 r wk oA;refine ⟨BH,?_⟩;have:=Jt (base:=i * sz) (lo:=i * sz) (vs:=v.cells.toList) b9 (oa _) (by simp;omega) (by
       rcases Yu Nc with h|h
       · right;have:i * sz+sz<=r * sz:=by rw [<- Gi];exact Vb _ h
         omega
       · left;have:r * sz+sz<=i * sz:=by rw [<- Gi];exact Vb _ h
         omega) (by have:=hr.1;omega)
      simpa using this) (by rw [ju,ae,Si];simp)
   rw [ju,ae] at e4;refine ⟨pg,?_,e2,by simpa using e3,e4⟩;simp only [Instr.fill];rw [if_neg (by simp;omega)];exact e1
 |[],_::_,_,_,_,_,hp,_,_=>hp.elim
 |_::_,[],_,_,_,_,hp,_,_=>by cases ‹Nat×AV›;exact hp.elim
end
end Go.V
namespace Go.V
open Go
section
variable {A:oh} {g:Gx} {f:Fx} {w:World} {s:S} {a:Act}
theorem Uk {w:World} {aA gk:Nat} {e:TypeId} (h:aA<=9223372036854775807):grownCap w aA gk e<=9223372036854775807:=by
 have:=Nat.mod_lt (w.tape w.drawn (.appendCap aA gk e)) (show 2^63-aA>0 by omega);show aA+w.tape w.drawn (.appendCap aA gk e)%(2^63-aA)<=_;omega
theorem Zl {g:Gx} {w:World} {b n cap e sz R:Nat} (hn:n<=cap) (he:cap * sz<=e) (hm:cap<=9223372036854775807):Ya (g.add b ⟨R,0,e,sz⟩) w (.sl b 0 n) (.slice (some ⟨R,0,none⟩) n cap):=by
 have:=Ya.sl (g:=g.add b ⟨R,0,e,sz⟩) (w:=w) b 0 n cap (.inr rfl) hn (by rw [Xf];simpa using he) hm
 simpa [Xf] using this
theorem Kw {t:TypeId} {n:Nat} {l:List (Nat×AV)} {m:List (Nat×Value)} {x:AV} {H':AH} {r:Result Next} (h:buildSlice A s.H t n l=some (x,H')) (hw:Ub A.La g w s.H) (hf:Jd g f w s.H s.F) (hp:Nw g w l m)
  (Wd:r=((do pure (.value (<- Instr.buildSlice t n m.toArray))):Sem Next).run A.P w):pJ A.La g f w s { s with H:=H' } (.v x) r:=by
 unfold buildSlice at h;simp only [aa] at h;obtain ⟨e,he,z,hz,h⟩:=h;split at h
 case isFalse=>simp at h
 case isTrue hc=>
  obtain ⟨L5,zf,ae⟩:=hc;have hu:=Ui he;split at h
  · rename_i h00;obtain ⟨rfl,CH⟩:=h00;simp at h;obtain ⟨rfl,rfl⟩:=h;have hl:l=[]:=Cr CH;subst hl;cases m with
    |cons _ _=>exact hp.elim
    |nil=>
    obtain ⟨q1,q2,q3⟩:=qn (w':=w.alloc (.cells #[] e)) hw hf (by show w.heap.size<=(w.heap.push _).size;simp) (fun R hR=>heap_alloc_old w _ R hR);refine ⟨.slice (some ⟨w.heap.size,0,none⟩) 0 0,w.alloc (.cells #[] e),g,f,.inl ?_,q1,q2,q3,.Kd _⟩;rw [Wd];have h0:0 * z.length=0:=Nat.zero_mul _;have O0:∀ q:Nat->Value,(Zr 0).map q= #[]:=fun q=>by apply Wg;simp
    simp only [Instr.buildSlice,Sem.run_bind,run_underlying hu,Result.andThen_ok,Mc ae,h0,if_neg (show ¬ 0>2^24 by decide),if_true,Sem.run_pure,List.toList_toArray,Instr.fill,O0,newRow,run_newObj];rfl
  simp only [aa] at h;obtain ⟨rows,Kc,h⟩:=h;simp at h;obtain ⟨rfl,rfl⟩:=h;obtain ⟨zv,XR,E0⟩:=uv (g:=g) (w:=w) hz;obtain ⟨q,hq1,hq2⟩:∃ q:Array Value,((n * z.length=0/\q= #[])\/(¬ n * z.length=0/\q=zv.cells))/\wj g w z.length (Ja n z) ((Zr (n * z.length)).map (q[· %q.size]!)):=by
    by_cases hn:n=0
    · subst hn;exact ⟨#[],.inl ⟨by simp,rfl⟩,by simp,fun r row hr=>by simp at hr⟩
    · have:¬ n * z.length=0:=by
       intro h0;rcases Nat.mul_eq_zero.1 h0 with h0|h0<;>omega
      exact ⟨zv.cells,.inr ⟨this,rfl⟩,pC n n E0 zf (oa _)⟩
  obtain ⟨pg,e1,e2,e3,e4⟩:=mo (FY:=[]) Kc hp hq2 (by simp);have Si:pg.size=n * z.length:=by rw [e4];simp
  have hlen:rows.length=n:=by rw [e3];simp
  refine Gs (cs:=pg) (t:=e) (fz:=(0,0)) (w':=w.alloc (.cells pg e)) hw hf zf e2 rfl (fun off _=>by simp) (rv:= .slice (some ⟨w.heap.size,0,none⟩) n n) (Zl (oa _) (by omega) (by have:=Nat.le_mul_of_pos_right n zf;omega)) ?_;rw [Wd];have HP:¬ n * z.length>2^24:=by omega
  rcases hq1 with ⟨hn,rfl⟩|⟨hn,rfl⟩
  · simp only [Instr.buildSlice,Sem.run_bind,run_underlying hu,Result.andThen_ok,Mc ae,if_neg HP,if_pos hn,e1,newRow,run_newObj,Sem.run_pure];rfl
  · simp only [Instr.buildSlice,Sem.run_bind,run_underlying hu,Result.andThen_ok,Mc ae,if_neg HP,if_neg hn,XR,e1,newRow,run_newObj,Sem.run_pure];rfl
theorem ay {t:TypeId} {x y v:AV} {xv yv:Value} {H':AH} {r:Result Next} (h:makeSlice A s.H t x y=some (v,H')) (hw:Ub A.La g w s.H) (hf:Jd g f w s.H s.F) (hx:Ya g w x xv) (hy:Ya g w y yv)
  (Wd:r=((do pure (.value (<- Instr.makeSlice t xv yv))):Sem Next).run A.P w):pJ A.La g f w s { s with H:=H' } (.v v) r:=by
 unfold makeSlice at h;split at h
 case h_2=>simp at h
 case h_1 k1 l k2 c=>
 simp only [aa] at h;obtain ⟨e,he,z,hz,n,hn,h⟩:=h;split at h
 case isFalse=>simp at h
 case isTrue hc=>
  obtain ⟨h0,h1,h2,h3,zf,ae⟩:=hc;simp at h;obtain ⟨rfl,rfl⟩:=h;cases hx;cases hy;have hu:=Ui he;obtain ⟨i,hi,G9⟩:=lB hn;obtain ⟨zv,XR,E0⟩:=uv (g:=g) (w:=w) hz;have wl:=wrap_small (n:=l) h0 (by omega);have wc:=wrap_small (n:=c) (by omega) h3;obtain ⟨q,hq1,hq2⟩:∃ q:Array Value,((c.toNat * z.length=0/\q= #[])\/(¬ c.toNat * z.length=0/\q=zv.cells))/\wj g w z.length (Ja l.toNat z) ((Zr (c.toNat * z.length)).map (q[· %q.size]!)):=by
    by_cases hn:c.toNat=0
    · have:l.toNat=0:=by omega
      rw [hn,this];exact ⟨#[],.inl ⟨by simp,rfl⟩,by simp,fun r row hr=>by simp at hr⟩
    · have:¬ c.toNat * z.length=0:=by
       intro h0;rcases Nat.mul_eq_zero.1 h0 with h0|h0<;>omega
      exact ⟨zv.cells,.inr ⟨this,rfl⟩,pC l.toNat c.toNat E0 zf (by omega)⟩
  refine Gs (cs:=(Zr (c.toNat * z.length)).map (q[· %q.size]!)) (t:=e) (fz:=(0,0)) (w':=w.alloc (.cells ((Zr (c.toNat * z.length)).map (q[· %q.size]!)) e)) hw hf zf hq2 rfl (fun off _=>by simp) (rv:= .slice (some ⟨w.heap.size,0,none⟩) l.toNat c.toNat) (Zl (by omega) (by simp) (by omega)) ?_;rw [Wd];have t1:(decide (c<0)||decide ((i.bytes:Int) * c>2^48))=false:=by
    rw [G9];simp;omega
  have t2:¬ (l<0):=by omega
  have t3:¬ (l>c):=by omega
  rcases hq1 with ⟨hn,rfl⟩|⟨hn,rfl⟩
  · simp only [Instr.makeSlice,Sem.run_bind,run_underlying hu,Result.andThen_ok,asInt,asIntOf,Sem.run_pure,typeInfo,run_program,hi,wl,wc,t1,decide_eq_false t2,decide_eq_false t3,Bool.or_false,se,if_false,run_askRoom,Mc ae,if_pos hn,newRow,run_newObj];rfl
  · simp only [Instr.makeSlice,Sem.run_bind,run_underlying hu,Result.andThen_ok,asInt,asIntOf,Sem.run_pure,typeInfo,run_program,hi,wl,wc,t1,decide_eq_false t2,decide_eq_false t3,Bool.or_false,se,if_false,run_askRoom,Mc ae,if_neg hn,XR,newRow,run_newObj];rfl
end
end Go.V
