/- An evaluator of the translated code and that it is right: each of its answers is an answer of the model. -/
import GoSem.Step
import Derived.Orders
import Derived.Calls
import Derived.Laws.Sem
import Derived.Laws.CopyRow
import Derived.Laws.Rows
import Derived.Laws.Append
import Derived.Laws.Entries
import Derived.Tactics
import Derived.LaidEql
set_option linter.unusedVariables false
set_option linter.unusedSimpArgs false
set_option linter.unusedSectionVars false
open Array renaming length_toList→Se,range→Tt,getD_eq_getD_getElem?→ni,eq_empty_of_size_eq_zero→jh
open Bool renaming false_eq_true→Od
open Classical renaming byContradiction→Uo
open List renaming replicate→Ca,getElem?_eq_none→Ab,getElem?_take→Db,getElem?_drop→Ic,getElem?_eq_getElem→Ba,getElem?_of_mem→me,append_nil→Nn,length_nil→Bb,getElem?_set→Ob,getElem?_append_left→Ka,getElem?_append_right→Na,getElem?_toArray→oc,append_assoc→xd,length_take→ic,size_toArray→Mi,length_append→qd,length_drop→qt,mem_of_getElem?→Nb,foldl_cons→Ve,length_cons→Jb,getElem?_cons_succ→We,all_eq_true→tc,getElem?_replicate→ji,eq_nil_of_length_eq_zero→Vs
open Nat renaming lt_or_ge→Vb,le_refl→va,le_trans→Ib,lt_of_lt_of_le→zb,add_assoc→Hf,add_zero→Je,le_of_lt→ot,zero_add→Re,succ_mul→Oi,mul_le_mul_right→ec,lt_or_gt_of_ne→Lw,add_mul→Me,le_of_not_lt→JC
open Option renaming bind_some→ga,map_eq_some_iff→ia,bind_eq_some_iff→aa,map_some→Oc
open Option.some renaming injEq→Dc
namespace Go.V
open Go
inductive AV where
 |Sb
 |bool (b:Bool)
 |int (k:IntKind) (n:Int)
 |str (s:ByteArray)
 |Oe
 |ptr (b r c:Nat)
 |Ed (row:List AV)
 |Xa
 |sl (b r n:Nat)
 |Ud
 |lit (sz:Nat) (rows:List (List AV))
 |Jf
 |mp (b:Nat)
 |bf
 |fn (f:FuncId) (fh:List AV)
 |yl (b:Nat)
 |Rg
 |agg (cells:List AV)
 |Sc (vs:List AV)
 deriving Inhabited
inductive AB where
 |dead
 |cells (rows:List (List AV)) (sz:Nat) (ty:Option (TypeId×Nat))
 |map (es:List (AV×AV))
 |loop (n:Nat) (keep:List Nat) (env:List (Nat×AV)) (params:List Nat) (assign body:Code) (st:LoopState) (pending:Option Code)
 deriving Inhabited
structure AH where
 bl:List AB
 wm:Nat
inductive SV where
 |v (a:AV)
 |loc (i c:Nat)
structure S where
 e:List (Nat×SV)
 F:List (List AV)
 H:AH
structure yh where
 P:Program
 fns:FuncId->Option Func
 loc:FuncId->List Nat
 keep:FuncId->List Nat
 AU:FuncId->Bool
 ext:FuncId->Option (List AV->AH->Option (AV×AH))
 Pa:Nat->Option (List AV)
def get:List (Nat×SV)->Nat->SV
 |[],_=> .v .Sb
 |(j,x)::e,i=>if i=j then x else get e i
def AV.iO:AV->Bool
 | .Sb| .agg _| .Sc _=>false
 |_=>true
def AV.cells?:AV->Option (List AV)
 | .agg cs=>some cs
 | .Sb| .Sc _=>none
 |x=>some [x]
def Ae:Value->Option AV
 | .bool b=>some (.bool b)
 | .int k n=>some (.int k n)
 | .string s=>some (.str s)
 | .pointer none=>some .Oe
 | .slice none 0 0=>some .Xa
 | .map none=>some .Jf
 | .nilFunc=>some .bf
 | .nilIface=>some .Rg
 |_=>none
def Rc:List Value->Option (List AV)
 |[]=>some []
 |v::vs=>(Ae v).bind fun x=>(Rc vs).bind fun xs=>some (x::xs)
section
variable (A:yh)
def size(t:TypeId):Option Nat:=(A.P.info? t).map (·.size)
def bytes(t:TypeId):Option Nat:=(A.P.info? t).map (·.bytes)
def isAgg(t:TypeId):Option Bool:=
 match A.P.underlying t with
 |some (.struct _)|some (.array _ _)=>some true
 |some _=>some false
 |none=>none
def zero(t:TypeId):Option (List AV):=
 match(A.P.info? t).map (·.zero)with
 |some (some v)=>Rc v.cells.toList
 |_=>none
def zeroV(t:TypeId):Option AV:=
 match(A.P.info? t).map (·.zero)with
 |some (some (Value.agg cs))=>(Rc cs.toList).map AV.agg
 |some (some v)=>Ae v
 |_=>none
def operand(e:List (Nat×SV)):Operand->Option SV
 | .tmp t=>some (get e t)
 | .const v=>(Ae v).map .v
 | .global g=>(A.Pa g).map fun row=> .v (.Ed row)
 | .func f=>some (.v (.fn f []))
def val(e:List (Nat×SV))(x:Operand):Option AV:=
 match operand A e x with
 |some (.v a)=>some a
 |_=>none
def ah(e:List (Nat×SV)):List Operand->Option (List AV)
 |[]=>some []
 |x::xs=>(val A e x).bind fun a=>(ah e xs).bind fun l=>some (a::l)
def Bf(row:List AV)(c:Nat)(new:List AV):Option (List AV):=
 if c+new.length<=row.length then some (row.take c++(new++row.drop (c+new.length)))else none
def part(t:TypeId)(row:List AV)(c:Nat):Option AV:=
 (isAgg A t).bind fun
  |true=>(size A t).bind fun n=>if c+n<=row.length then some (.agg ((row.drop c).take n))else none
  |false=>row[c]?
def rowAt(H:AH)(b r:Nat):Option (List AV):=
 match H.bl[b]? with
 |some (.cells rows _ _)=>rows[r]?
 |_=>none
def Ra(H:AH)(b:Nat)(x:AB):AH:={ H with bl:=H.bl.set b x }
def push(H:AH)(x:AB):AH:={ H with bl:=H.bl++[x] }
def rowsOf(H:AH):AV->Option (List (List AV))
 | .Xa=>some []
 | .Ud=>some []
 | .lit _ rows=>some rows
 | .sl b r n=>
  match H.bl[b]? with
  |some (.cells rows _ _)=>if r+n<=rows.length then some ((rows.drop r).take n)else none
  |_=>none
 |_=>none
def Jj(H:AH)(b:Nat):Option Nat:=
 match H.bl[b]? with
 |some (.cells _ sz _)=>some sz
 |_=>none
def TF(H:AH)(b:Nat):Option (TypeId×Nat):=
 match H.bl[b]? with
 |some (.cells _ _ ty)=>ty
 |_=>none
def vz(ty:Option (TypeId×Nat))(e:TypeId)(r:Nat):Option (TypeId×Nat):=
 match ty with
 |some (t,k)=>if t=e/\r=0/\1<=k then some (e,1)else none
 |none=>none
def lenOf:AV->Option Nat
 | .Xa=>some 0
 | .Ud=>some 0
 | .lit _ rows=>some rows.length
 | .sl _ _ n=>some n
 | .str s=>some s.size
 |_=>none
def load(s:S)(t:TypeId):SV->Option AV
 | .loc i c=>s.F[i]?.bind fun row=>part A t row c
 | .v (.ptr b r c)=>(rowAt s.H b r).bind fun row=>part A t row c
 | .v (.Ed row)=>part A t row 0
 |_=>none
def store(s:S)(t:TypeId)(p:SV)(x:AV):Option S:=
 x.cells?.bind fun cs=>(size A t).bind fun n=>
  if cs.length=n then
   match p with
   | .loc i c=>s.F[i]?.bind fun row=>(Bf row c cs).bind fun Lb=>some { s with F:=s.F.set i Lb }
   | .v (.ptr b r c)=>
    match s.H.bl[b]? with
    |some (.cells rows sz ty)=>
     if s.H.wm<=b then rows[r]?.bind fun row=>(Bf row c cs).bind fun Lb=>some { s with H:=Ra s.H b (.cells (rows.set r Lb) sz ty) }else none
    |_=>none
   |_=>none
  else none
def Ng(n:Nat):SV->Option SV
 | .loc i c=>some (.loc i (c+n))
 | .v (.ptr b r c)=>some (.v (.ptr b r (c+n)))
 | .v (.Ed row)=>some (.v (.Ed (row.drop n)))
 |_=>none
def field?(t:TypeId)(f:Nat):Option Field:=
 match A.P.underlying t with
 |some (.struct fs)=>fs[f]?
 |_=>none
def ja(i:Int)(n:Nat):Bool:=decide (0<=i)&&decide (i<(n:Int))
def indexAddr(H:AH)(t:TypeId)(x:SV)(i:Int):Option SV:=
 match A.P.underlying t with
 |some (.array n e)=>if ja i n then(size A e).bind fun sz=>Ng (i.toNat * sz) x else none
 |some (.slice e)=>
  match x with
  | .v (.sl b r n)=>if ja i n then((Jj H b).bind fun sz=>if size A e=some sz then some (.v (.ptr b (r+i.toNat) 0))else none)else none
  | .v (.lit sz rows)=>if ja i rows.length then(if size A e=some sz then rows[i.toNat]?.map fun row=> .v (.Ed row)else none)else none
  |_=>none
 |_=>none
def index(t:TypeId)(x:AV)(i:Int):Option AV:=
 match A.P.underlying t,x with
 |some (.array n e),.agg cs=>if ja i n then(size A e).bind fun sz=>part A e cs (i.toNat * sz)else none
 |some .string,.str s=>if ja i s.size then some (.int .u8 (s[i.toNat]!.toNat:Int))else none
 |_,_=>none
def jg(place:Nat->Option (Nat×Nat))(row:List AV):List (Nat×AV)->Option (List AV)
 |[]=>some row
 |(i,x)::rest=>
  (place i).bind fun(off,n)=>x.cells?.bind fun cs=>
   if cs.length=n then(Bf row off cs).bind fun Lb=>jg place Lb rest else none
def parts(e:List (Nat×SV)):List (Nat×Operand)->Option (List (Nat×AV))
 |[]=>some []
 |(i,x)::xs=>(val A e x).bind fun a=>(parts e xs).bind fun l=>some ((i,a)::l)
def build(t:TypeId)(ps:List (Nat×AV)):Option AV:=
 (zero A t).bind fun z=>
  match A.P.underlying t with
  |some (.struct fs)=>if fs.toList.all fun f=>(size A f.type).isSome then(jg (fun i=>fs[i]?.bind fun f=>(size A f.type).map fun n=>(f.offset,n)) z ps).map .agg else none
  |some (.array _ e)=>(size A e).bind fun n=>(jg (fun i=>some (i * n,n)) z ps).map .agg
  |_=>none
def elem?(t:TypeId):Option TypeId:=
 match A.P.underlying t with
 |some (.slice e)=>some e
 |_=>none
def Te(rows:List (List AV)):List (Nat×AV)->Option (List (List AV))
 |[]=>some rows
 |(i,x)::rest=>x.cells?.bind fun cs=>rows[i]?.bind fun row=>if cs.length=row.length then Te (rows.set i cs) rest else none
def buildSlice(H:AH)(t:TypeId)(len:Nat)(ps:List (Nat×AV)):Option (AV×AH):=
 (elem? A t).bind fun e=>(zero A e).bind fun z=>
  if len * z.length<=16777216/\0<z.length/\size A e=some z.length then
   if len=0/\ps.length=0 then some (.Ud,H)else(Te (Ca len z) ps).bind fun rows=>some (.sl H.bl.length 0 len,push H (.cells rows z.length (some (e,1))))
  else none
def makeSlice(H:AH)(t:TypeId)(len cap:AV):Option (AV×AH):=
 match len,cap with
 | .int _ l,.int _ c=>
  (elem? A t).bind fun e=>(zero A e).bind fun z=>(bytes A e).bind fun n=>
   if 0<=l/\l<=c/\n * c<=70368744177664/\c<9223372036854775808/\0<z.length/\size A e=some z.length then
    some (.sl H.bl.length 0 l.toNat,push H (.cells (Ca l.toNat z) z.length (some (e,1))))
   else none
 |_,_=>none
def uc(s:ByteArray):List (List AV):=s.data.toList.map fun b=>[.int .u8 (b.toNat:Int)]
def append(H:AH)(argTypes:Array TypeId)(x y:AV):Option (AV×AH):=
 argTypes[0]?.bind fun t=>(elem? A t).bind fun e=>(zero A e).bind fun z=>(bytes A e).bind fun n=>
  (match argTypes[1]? with
   |some u=>(match A.P.underlying u with|some (.int _)=>none|some _=>some ()|none=>none)
   |none=>some ()).bind fun _=>
  (rowsOf H x).bind fun xs=>(match y with| .str s=>some (uc s)|y=>rowsOf H y).bind fun ys=>
   if(xs.length+ys.length) * n<=70368744177664/\xs.length+ys.length<9223372036854775808/\0<z.length/\size A e=some z.length/\ys.all (fun r=>r.length==z.length)then
    if ys.length=0 then some (x,H)
    else
     match x with
     | .Xa| .Ud=>some (.sl H.bl.length 0 ys.length,push H (.cells ys z.length (some (e,1))))
     | .sl b r _=>
      if H.wm<=b/\Jj H b=some z.length then some (.sl H.bl.length 0 (xs.length+ys.length),push (Ra H b .dead) (.cells (xs++ys) z.length (vz (TF H b) e r)))else none
     |_=>none
   else none
def AN(lo hi:Option Int)(n:Nat):Option (Nat×Nat):=
 if 0<=lo.getD 0/\lo.getD 0<=hi.getD n/\hi.getD n<=n then some ((lo.getD 0).toNat,(hi.getD n).toNat)else none
def slice(H:AH)(t:TypeId)(x:AV)(lo hi:Option Int):Option AV:=
 match A.P.underlying t,x with
 |some .string,.str s=>(AN lo hi s.size).map fun(l,h)=> .str (s.extract l h)
 |some (.slice e),.Xa=>(size A e).bind fun _=>(AN lo hi 0).map fun _=> .Xa
 |some (.slice e),.Ud=>(size A e).bind fun _=>(AN lo hi 0).map fun _=> .Ud
 |some (.slice e),.lit sz rows=>(AN lo hi rows.length).bind fun(l,h)=>if size A e=some sz then some (.lit sz ((rows.take h).drop l))else none
 |some (.slice e),.sl b r n=>(AN lo hi n).bind fun(l,h)=>(Jj H b).bind fun sz=>if size A e=some sz then some (.sl b (r+l) (h-l))else none
 |_,_=>none
def ri(t:TypeId)(x:AV):Option AV:=
 match A.P.underlying t with
 |some (.slice e)=>(size A e).bind fun _=>match x with
  | .Xa=>some .Xa
  | .Ud| .lit _ _| .sl _ _ _=>some .Ud
  |_=>none
 |_=>none
def CV(x:AV):Bool:=match x with| .int _ n=>decide (n=0)|_=>false
def bits(op:BinOp)(k:IntKind)(x y:Int):Option Int:=
 let a:=BitVec.ofInt k.bits x
 let b:=BitVec.ofInt k.bits y
 match op with
 | .and=>some (k.wrap (a &&& b).toNat)
 | .or=>some (k.wrap (a ||| b).toNat)
 | .xor=>some (k.wrap (a ^^^ b).toNat)
 | .andNot=>some (k.wrap (a &&& ~~~b).toNat)
 |_=>none
def nq(op:BinOp)(k:IntKind)(x y:Int):Option AV:=
 match op with
 | .add=>some (.int k (k.wrap (x+y)))
 | .sub=>some (.int k (k.wrap (x-y)))
 | .mul=>some (.int k (k.wrap (x * y)))
 | .quo=>if y=0 then none else some (.int k (k.wrap (x.tdiv y)))
 | .rem=>if y=0 then none else some (.int k (x.tmod y))
 | .and| .or| .xor| .andNot=>(bits op k x y).map (.int k)
 | .eql=>some (.bool (decide (x=y)))
 | .neq=>some (.bool (!decide (x=y)))
 | .lss=>some (.bool (decide (x<y)))
 | .leq=>some (.bool (decide (x<=y)))
 | .gtr=>some (.bool (decide (y<x)))
 | .geq=>some (.bool (decide (y<=x)))
 |_=>none
def eqFields(eq:TypeId->AV->AV->Option Bool)(xs ys:List AV):List Field->Option Bool
 |[]=>some true
 |fd::fs=>
  if fd.name= "_" then eqFields eq xs ys fs
  else(part A fd.type xs fd.offset).bind fun x=>(part A fd.type ys fd.offset).bind fun y=>(eq fd.type x y).bind fun b=>(eqFields eq xs ys fs).map fun c=>b&&c
def Lg(eq:AV->AV->Option Bool)(e:TypeId)(sz:Nat)(xs ys:List AV):Nat->Nat->Option Bool
 |0,_=>some true
 |n+1,i=>(part A e xs (i * sz)).bind fun x=>(part A e ys (i * sz)).bind fun y=>(eq x y).bind fun b=>(Lg eq e sz xs ys n (i+1)).map fun c=>b&&c
def zw:Nat->TypeId->AV->AV->Option Bool
 |0,_,_,_=>none
 |d+1,t,x,y=>
  match A.P.underlying t,x,y with
  |some .bool,.bool a,.bool b=>some (a==b)
  |some (.int _),.int k a,.int k' b=>if k=k' then some (decide (a=b))else none
  |some .string,.str a,.str b=>some (a.toList==b.toList)
  |some (.struct fs),.agg xs,.agg ys=>if A.P.stoodInHeld t then none else eqFields A (zw d) xs ys fs.toList
  |some (.array n e),.agg xs,.agg ys=>(size A e).bind fun sz=>Lg A (zw d e) e sz xs ys n 0
  |_,_,_=>none
def Ig(t:TypeId)(x y:AV):Option Bool:=
 match A.P.underlying t,x,y with
 |some .bool,.bool a,.bool b=>some (a==b)
 |some (.struct _),.agg xs,.agg ys=>if A.P.eqGuardType A.P.depth t then none else zw A 1000 t (.agg xs) (.agg ys)
 |some (.array _ _),.agg xs,.agg ys=>if A.P.eqGuardType A.P.depth t then none else zw A 1000 t (.agg xs) (.agg ys)
 |some (.slice _),.Xa,.Xa=>some true
 |some (.slice _),.Xa,.lit _ _|some (.slice _),.lit _ _,.Xa|some (.slice _),.Xa,.sl .. |some (.slice _),.sl ..,.Xa|some (.slice _),.Xa,.Ud|some (.slice _),.Ud,.Xa=>some false
 |some (.pointer _),.Oe,.Oe=>some true
 |some (.pointer _),.Oe,.ptr .. |some (.pointer _),.ptr ..,.Oe|some (.pointer _),.Oe,.Ed _|some (.pointer _),.Ed _,.Oe=>some false
 |some (.map _ _),.Jf,.Jf=>some true
 |some (.map _ _),.Jf,.mp _|some (.map _ _),.mp _,.Jf=>some false
 |some (.func _ _ _),.bf,.bf=>some true
 |some (.func _ _ _),.bf,.fn .. |some (.func _ _ _),.fn ..,.bf=>some false
 |_,_,_=>none
def vt(op:BinOp)(x y:ByteArray):Option AV:=
 match op with
 | .add=>if x.size+y.size<=9223372036854775807 then some (.str (x++y))else none
 | .eql=>some (.bool (x.toList==y.toList))
 | .neq=>some (.bool (!(x.toList==y.toList)))
 | .lss=>some (.bool (Op.bytesLess x.toList y.toList))
 | .leq=>some (.bool (Op.bytesLess x.toList y.toList||x.toList==y.toList))
 | .gtr=>some (.bool !(Op.bytesLess x.toList y.toList||x.toList==y.toList))
 | .geq=>some (.bool !(Op.bytesLess x.toList y.toList))
 |_=>none
def binop(op:BinOp)(t:TypeId)(x y:AV):Option AV:=
 match op,x,y with
 | .shl,.int k a,.int _ b=>if 0<=b then some (.int k (k.wrap (a * 2^min b.toNat k.bits)))else none
 | .shr,.int k a,.int _ b=>if 0<=b then some (.int k (a.fdiv (2^min b.toNat k.bits)))else none
 |op,.int k a,.int k' b=>if k=k' then nq op k a b else none
 |op,.str a,.str b=>vt op a b
 | .eql,x,y=>(Ig A t x y).map .bool
 | .neq,x,y=>(Ig A t x y).map fun b=> .bool !b
 |_,_,_=>none
def unop(op:UnOp)(x:AV):Option AV:=
 match op,x with
 | .neg,.int k n=>some (.int k (k.wrap (0-n)))
 | .xor,.int k n=>(bits .xor k (if k.signed then -1 else k.max) n).map (.int k)
 | .not,.bool b=>some (.bool !b)
 |_,_=>none
def Nh:List (List AV)->Option (List UInt8)
 |[]=>some []
 |[.int .u8 n]::rest=>(Nh rest).bind fun l=>some (UInt8.ofNat n.toNat::l)
 |_=>none
def convert(H:AH)(src dst:TypeId)(x:AV):Option (AV×AH):=
 match A.P.underlying src,A.P.underlying dst,x with
 |some _,some (.int k),.int _ n=>some (.int k (k.wrap n),H)
 |some _,some .string,.str s=>some (.str s,H)
 |some .string,some (.slice e),.str s=>
  match A.P.underlying e with
  |some (.int .u8)=>if s.size<=70368744177664 then some (.sl H.bl.length 0 s.size,push H (.cells (uc s) 1 (some (e,1))))else none
  |_=>none
 |some (.slice e),some .string,x=>
  match A.P.underlying e with
  |some (.int .u8)=>(rowsOf H x).bind fun rows=>(Nh rows).map fun l=>(.str ⟨l.toArray⟩,H)
  |_=>none
 |_,_,_=>none
def tB:AV->AV->Option Bool
 | .int k x,.int k' y=>if k=k' then some (decide (x=y))else none
 | .str x,.str y=>some (x==y)
 |_,_=>none
def zi(k:AV):List (AV×AV)->Option (Option AV)
 |[]=>some none
 |(k',v)::es=>(tB k k').bind fun
  |true=>some (some v)
  |false=>zi k es
def jo(k v:AV):List (AV×AV)->Option (List (AV×AV))
 |[]=>some [(k,v)]
 |(k',v')::es=>(tB k k').bind fun
  |true=>some ((k,v)::es)
  |false=>(jo k v es).map ((k',v'):: ·)
def oo(k:AV):List (AV×AV)->Option (List (AV×AV))
 |[]=>some []
 |(k',v')::es=>(tB k k').bind fun
  |true=>some es
  |false=>(oo k es).map ((k',v'):: ·)
def mapOf(H:AH):AV->Option (List (AV×AV))
 | .Jf=>some []
 | .mp b=>match H.bl[b]? with|some (.map es)=>some es|_=>none
 |_=>none
def AV.isKey:AV->Bool
 | .int _ _| .str _=>true
 |_=>false
def Ri(t:TypeId)(k:AV):Bool:=
 match A.P.underlying t,k with
 |some (.int _),.int _ _=>true
 |some .string,.str _=>true
 |_,_=>false
def lookup(H:AH)(t:TypeId)(m k:AV)(ok:Bool):Option AV:=
 match A.P.underlying t with
 |some (.map kt et)=>
  if Ri A kt k then
   (mapOf H m).bind fun es=>(zi k es).bind fun r=>
    (match r with|some v=>some (v,true)|none=>(zeroV A et).map fun z=>(z,false)).bind fun(v,b)=>
     some (if ok then .Sc [v,.bool b]else v)
  else none
 |_=>none
def mapUpdate(H:AH)(t:TypeId)(m k x:AV):Option AH:=
 match A.P.underlying t,m with
 |some (.map kt _),.mp b=>
  if Ri A kt k&&decide (H.wm<=b)then
   match H.bl[b]? with
   |some (.map es)=>(jo k x es).map fun ud=>Ra H b (.map ud)
   |_=>none
  else none
 |_,_=>none
def Ff(H:AH)(t:TypeId)(m k:AV):Option AH:=
 match A.P.underlying t,m with
 |some (.map kt _),.Jf=>if Ri A kt k then some H else none
 |some (.map kt _),.mp b=>
  if Ri A kt k&&decide (H.wm<=b)then
   match H.bl[b]? with
   |some (.map es)=>(oo k es).map fun ud=>Ra H b (.map ud)
   |_=>none
  else none
 |_,_=>none
def toInt:AV->Option Int
 | .int _ n=>some n
 |_=>none
def Qg(e:List (Nat×SV)):Option Operand->Option (Option Int)
 |none=>some none
 |some x=>(val A e x).bind fun a=>(toInt a).map some
abbrev Callee:=AV->List AV->AH->Option (AV×AH)
def WI:AV->AV->Option AV
 | .int k x,.int _ y=>some (.int k (if y>x then y else x))
 |_,_=>none
def UI:AV->AV->Option AV
 | .int k x,.int _ y=>some (.int k (if y<x then y else x))
 |_,_=>none
def Vk(f:AV->AV->Option AV)(x:AV):List AV->Option AV
 |[]=>some x
 |y::ys=>(f x y).bind fun z=>Vk f z ys
def builtin(H:AH)(b:Builtin)(argTypes:Array TypeId)(args:List AV):Option (AV×AH):=
 match b,args with
 | .append,[x,y]=>append A H argTypes x y
 | .len,[x]=>
  argTypes[0]?.bind fun t=>
   match A.P.underlying t,x with
   |some .string,.str s=>some (.int .i64 s.size,H)
   |some (.slice _),.Xa|some (.slice _),.Ud=>some (.int .i64 0,H)
   |some (.slice _),.lit _ rows=>some (.int .i64 rows.length,H)
   |some (.slice _),.sl _ _ n=>some (.int .i64 n,H)
   |some (.map _ _),m=>(mapOf H m).map fun es=>(.int .i64 es.length,H)
   |some (.array n _),_=>some (.int .i64 n,H)
   |_,_=>none
 | .max,x::xs=>(Vk WI x xs).map fun v=>(v,H)
 | .min,x::xs=>(Vk UI x xs).map fun v=>(v,H)
 | .delete,[m,k]=>argTypes[0]?.bind fun t=>(Ff A H t m k).map fun H'=>(.Sc [],H')
 | .copy,[x,y]=>
  argTypes[0]?.bind fun t=>(elem? A t).bind fun e=>(size A e).bind fun z=>
   (rowsOf H y).bind fun ys=>
    match x with
    | .Xa| .Ud=>some (.int .i64 0,H)
    | .sl b r n=>
     match H.bl[b]? with
     |some (.cells rows sz ty)=>
      if H.wm<=b/\r+n<=rows.length/\sz=z/\ys.all (fun q=>q.length==z)then
       let new:=ys.take (min ys.length n)
       some (.int .i64 new.length,Ra H b (.cells (rows.take r++(new++rows.drop (r+new.length))) sz ty))
      else none
     |_=>none
    |_=>none
 |_,_=>none
def box(s:S)(t:TypeId)(Vg:Bool)(cs:List AV):SV×S:=
 if Vg then(.loc s.F.length 0,{ s with F:=s.F++[cs] })else(.v (.ptr s.H.bl.length 0 0),{ s with H:=push s.H (.cells [cs] cs.length (some (t,2))) })
def boxed(s:S)(t:TypeId)(Vg:Bool)(cs:List AV):Option (SV×S):=if Vg||decide (0<cs.length)then some (box s t Vg cs)else none
def Uf(s:S)(x:Option AV):Option (SV×S):=x.map fun a=>(.v a,s)
def th(s:S)(x:Option (AV×AH)):Option (SV×S):=x.map fun(a,H)=>(.v a,{ s with H:=H })
def Xg(fz:AH->AV->Option (AV×AH)):AH->List AV->Option (List AV×AH)
 |H,[]=>some ([],H)
 |H,x::xs=>(fz H x).bind fun(x',H')=>(Xg fz H' xs).bind fun(Pp,H'')=>some (x'::Pp,H'')
def Gh(fz:AH->AV->Option (AV×AH)):AH->List (List AV)->Option (List (List AV)×AH)
 |H,[]=>some ([],H)
 |H,x::xs=>(Xg fz H x).bind fun(x',H')=>(Gh fz H' xs).bind fun(Pp,H'')=>some (x'::Pp,H'')
def freeze:Nat->AH->AV->Option (AV×AH)
 |0,_,_=>none
 |d+1,H,.sl b r n=>
  (rowsOf H (.sl b r n)).bind fun rows=>(Jj H b).bind fun sz=>
   if H.wm<=b then(Gh (freeze d) (Ra H b .dead) rows).bind fun(Yd,H')=>some (.lit sz Yd,H')else none
 |d+1,H,.agg cs=>(Xg (freeze d) H cs).bind fun(Jh,H')=>some (.agg Jh,H')
 |d+1,H,.Sc cs=>(Xg (freeze d) H cs).bind fun(Jh,H')=>some (.Sc Jh,H')
 |_+1,H,x=>some (x,H)
def jn(Fa:List Nat)(o:Oper):Bool:=(o.dst.map fun d=>Fa.contains (2000000+d)).getD false
def op(call:Callee)(Fa:List Nat)(s:S)(o:Oper):Option (SV×S):=
 match o.op with
 | .move x| .assign x=>(operand A s.e x).map fun v=>(v,s)
 | .pick c a b=>(val A s.e c).bind fun
  | .bool true=>(operand A s.e a).map fun v=>(v,s)
  | .bool false=>(operand A s.e b).map fun v=>(v,s)
  |_=>none
 | .alloc t=>(zero A t).bind fun z=>boxed s t ((o.dst.map (Fa.contains ·)).getD false) z
 | .box t x=>(val A s.e x).bind fun a=>a.cells?.bind fun cs=>boxed s t ((o.dst.map (Fa.contains ·)).getD false) cs
 | .build t ps=>(parts A s.e ps.toList).bind fun l=>Uf s (build A t l)
 | .buildSlice t n ps=>(parts A s.e ps.toList).bind fun l=>th s ((buildSlice A s.H t n l).bind fun(v,H)=>if jn Fa o then freeze 8 H v else some (v,H))
 | .load t x=>(operand A s.e x).bind fun p=>Uf s (load A s t p)
 | .store t x y=>(operand A s.e x).bind fun p=>(val A s.e y).bind fun a=>(store A s t p a).map fun s'=>(.v .Sb,s')
 | .nilCheck x=>(operand A s.e x).bind fun
  | .loc i c=>some (.loc i c,s)
  | .v (.ptr b r c)=>some (.v (.ptr b r c),s)
  | .v (.Ed row)=>some (.v (.Ed row),s)
  | .v (.fn f cs)=>some (.v (.fn f cs),s)
  | .v (.yl b)=>some (.v (.yl b),s)
  |_=>none
 | .binOp b t x y _=>(val A s.e x).bind fun u=>(val A s.e y).bind fun v=>Uf s (binop A b t u v)
 | .unOp u _ x=>(val A s.e x).bind fun v=>Uf s (unop u v)
 | .convert src dst x=>(val A s.e x).bind fun v=>th s (convert A s.H src dst v)
 | .makeFunc (.func f) first fh=>if first.size=0 then(ah A s.e fh.toList).map fun l=>(.v (.fn f l),s)else none
 | .makeMap t r=>
  (match r with|none=>some ()|some x=>(match A.P.underlying t with|some (.map _ _)=>(val A s.e x).bind fun v=>(toInt v).map fun _=>()|_=>none)).bind fun _=>
   some (.v (.mp s.H.bl.length),{ s with H:=push s.H (.map []) })
 | .makeSlice t l c=>(val A s.e l).bind fun u=>(val A s.e c).bind fun v=>th s (makeSlice A s.H t u v)
 | .slice t x lo hi none=>(val A s.e x).bind fun v=>(Qg A s.e lo).bind fun l=>(Qg A s.e hi).bind fun h=>Uf s (slice A s.H t v l h)
 | .slice t x none (some h) (some m)=>(val A s.e x).bind fun v=>(val A s.e h).bind fun a=>(val A s.e m).bind fun b=>if CV a&&CV b then Uf s (ri A t v)else none
 | .fieldAddr t x f=>(operand A s.e x).bind fun p=>(field? A t f).bind fun fd=>(size A fd.type).bind fun n=>if n=0 then none else(Ng fd.offset p).map fun v=>(v,s)
 | .field t x f=>(val A s.e x).bind fun
  | .agg cs=>(field? A t f).bind fun fd=>Uf s (part A fd.type cs fd.offset)
  |_=>none
 | .indexAddr t x i=>(operand A s.e x).bind fun p=>(val A s.e i).bind fun n=>(toInt n).bind fun n=>(indexAddr A s.H t p n).map fun v=>(v,s)
 | .index t x i=>(val A s.e x).bind fun v=>(val A s.e i).bind fun n=>(toInt n).bind fun n=>Uf s (index A t v n)
 | .lookup t x i ok=>(val A s.e x).bind fun m=>(val A s.e i).bind fun k=>Uf s (lookup A s.H t m k ok)
 | .mapUpdate t m k x| .insert t m k x=>(val A s.e m).bind fun m=>(val A s.e k).bind fun k=>(val A s.e x).bind fun v=>(mapUpdate A s.H t m k v).map fun H=>(.v .Sb,{ s with H:=H })
 | .extract x i=>(val A s.e x).bind fun
  | .Sc vs=>vs[i]?.map fun v=>(.v v,s)
  |_=>none
 | .call c=>
  (ah A s.e c.args.toList).bind fun args=>
   match c.callee with
   | .value f=>(val A s.e f).bind fun g=>th s (call g args s.H)
   | .builtin b=>th s (builtin A s.H b c.argTypes args)
   |_=>none
 |_=>none
def put(s:S)(n:Nat)(dst:Option Nat)(v:SV):Option S:=
 match dst with
 |none=>some s
 |some d=>if d<n then some { s with e:=(d,v)::s.e }else none
inductive qf where
 |no
 |heap (w:Bool)
 |box (i:Nat) (w:Bool)
def qf.Fc:qf->Bool
 | .heap _=>true
 |_=>false
def qf.writes:qf->Bool
 | .heap w=>w
 | .box _ w=>w
 | .no=>false
def tf(w:Bool):Option SV->qf
 |some (.loc i _)=> .box i w
 |some (.v (.Ed _))=>if w then .heap w else .no
 |_=> .heap w
def jr:Option SV->qf
 |some (.v (.sl _ _ _))=> .heap false
 |_=> .no
def rh:Option (List AV)->qf
 |some [.mp _]=> .heap false
 |some _=> .no
 |none=> .heap false
def Vg(Fa:List Nat)(o:Oper):Bool:=(o.dst.map (Fa.contains ·)).getD false
def Zc(Fa:List Nat)(s:S)(o:Oper)(quiet:Bool):qf:=
 match o.op with
 | .load _ x=>tf false (operand A s.e x)
 | .indexAddr _ x _=>jr (operand A s.e x)
 | .store _ x _=>tf true (operand A s.e x)
 | .alloc _| .box _ _=>if Vg Fa o then .no else .heap false
 | .mapUpdate .. | .insert .. => .heap true
 | .call { callee:= .builtin .copy,.. }| .call { callee:= .builtin .delete,.. }=> .heap true
 | .call { callee:= .builtin .max,.. }| .call { callee:= .builtin .min,.. }=> .no
 | .call { callee:= .builtin .len,args,.. }=>rh (ah A s.e args.toList)
 | .call _=> .heap (!quiet)
 | .move _| .assign _| .pick .. | .build .. | .nilCheck _| .binOp .. | .unOp .. | .makeFunc .. | .fieldAddr .. | .field .. | .index .. | .extract .. => .no
 |_=> .heap false
def conflict:qf->qf->Bool
 | .heap a,.heap b=>a||b
 | .box i a,.box j b=>i==j&&(a||b)
 |_,_=>false
def force{α:Type}(n:Nat)(k:Nat->α):α:=match n with|0=>k 0|m+1=>k (m+1)
def bitsOf(acc:List Nat):List Edge->Nat
 |[]=>0
 |e::es=>if Region.binds .any e then(2^e.on ||| acc.getD e.on 0) ||| bitsOf acc es else bitsOf acc es
def vk:List Oper->List Nat->List Nat
 |[],acc=>acc
 |o::os,acc=>force (bitsOf acc o.after.toList) fun b=>vk os (acc++[b])
def ord(b:List Nat)(i j:Nat):Bool:=(b.getD j 0).testBit i
def Wj(o:Oper):Bool:=
 match o.op with
 | .load t (.tmp _)=>(match A.P.underlying t with|some (.map _ _)|some (.func _ _ _)=>true|_=>false)
 | .lookup t _ _ false=>(match A.P.underlying t with|some (.map _ et)=>(match A.P.underlying et with|some (.func _ _ _)=>true|_=>false)|_=>false)
 |_=>false
def Ar(m:Nat):SV->Bool
 | .v (.mp b)=>decide (b<m)
 | .v (.fn _ [])| .v .Jf| .v .bf=>true
 |_=>false
def kR(b:List Nat)(i:Nat)(l:List qf):Bool:=l.zipIdx.all fun(t,j)=> !(t.Fc&&t.writes)||ord b j i
def uV(o:Oper):Bool:=
 match o.op with
 | .call { callee:= .value _,.. }| .call { callee:= .builtin .append,.. }=>true
 |_=>false
def eag(Fa:List Nat)(o:Oper):Bool:= !Wj A o&&
 match o.op with
 | .load _ (.tmp t)| .store _ (.tmp t) _=> !Fa.contains t
 | .alloc _| .box _ _=> !Vg Fa o
 | .call { callee:= .builtin .max,.. }| .call { callee:= .builtin .min,.. }| .call { callee:= .builtin .len,.. }=>false
 | .move _| .assign _| .pick .. | .build .. | .nilCheck _| .binOp .. | .unOp .. | .makeFunc .. | .fieldAddr .. | .field .. | .index .. | .extract .. =>false
 |_=>true
def HL:List Oper->List Nat->List Nat
 |[],l=>l
 |o::os,l=>
  match o.op,o.dst with
  | .fieldAddr _ (.tmp t) _,some d| .indexAddr _ (.tmp t) _,some d=>HL os (if l.contains t then d::l else l)
  |_,_=>HL os l
def quietAt(Fa:List Nat)(os:List Oper)(b:List Nat)(i:Nat)(o:Oper):Bool:=
 uV o&& !((o.dst.map fun d=>Fa.contains (1000000+d)).getD false)&&os.zipIdx.any fun(oj,j)=>eag A (HL os Fa) oj&& !(j==i)&& !ord b i j&& !ord b j i
def aG(os:Array Oper)(b:List Nat):Bool:=
 (os.toList.zipIdx.all fun(o,j)=>o.after.toList.all fun e=> !Region.binds .any e||decide (e.on<j))&&
 os.toList.zipIdx.all fun(oj,j)=>os.toList.zipIdx.all fun(oi,i)=> !(decide (i<j))||ord b i j||oi.apart os oj
def Nu(b:List Nat)(l:List qf):Bool:=
 l.zipIdx.all fun(tj,j)=> !tj.writes||l.zipIdx.all fun(ti,i)=>i==j||(decide (i<j)&&ord b i j)||(decide (j<i)&&ord b j i)|| !conflict ti tj
def Yc(os:Array Oper)(s:S)(o:Oper):Option Bool:=
 match o.guard with
 |none=>some true
 |some (j,want)=>
  match(os[j]?).bind (·.dst)with
  |some d=>match get s.e d with
   | .v (.bool b)=>some (b==want)
   | .v (.Sc [])=>some false
   |_=>none
  |none=>none
def ops(call:Callee)(Fa:List Nat)(n:Nat)(all:Array Oper):List Oper->S->Option S
 |[],s=>some s
 |o::rest,s=>
  (Yc all s o).bind fun
   |true=>(op A call Fa s o).bind fun(v,s')=>(put s' n o.dst v).bind fun LK=>ops call Fa n all rest LK
   |false=>(put s n o.dst (.v (.Sc []))).bind fun s'=>ops call Fa n all rest s'
def TN(call:Callee)(Fa:List Nat)(t:qf)(s:S)(o:Oper):Option (SV×S):=
 match t with
 | .heap true=>op A call Fa s o
 |_=>(op A call Fa { s with H:={ s.H with wm:=s.H.bl.length } } o).map fun(v,s')=>(v,{ s' with H:={ s'.H with wm:=s.H.wm } })
def yf(s:S)(o:Oper):Bool:=
 Wj A o&&match o.op with
  | .load _ x=>(match operand A s.e x with|some (.v (.ptr ..))=>true|_=>false)
  |_=>true
def Zg(call:Callee)(Fa:List Nat)(rs:List (Oper×List (Nat×SV)×SV))(s:S):Prop:=∀r∈rs,∃s',op A call Fa { s with e:=r.2.1 } r.1=some (r.2.2,s')
open Classical in
noncomputable def Xj(call:Callee)(Fa:List Nat)(n:Nat)(all:Array Oper)(b:List Nat):List Oper->Nat->S->List qf->List (Oper×List (Nat×SV)×SV)->Option (S×List qf)
 |[],_,s,l,_=>some (s,l)
 |o::rest,i,s,l,rs=>
  (Yc all s o).bind fun
   |true=>
    if yf A s o then
     (op A call Fa s o).bind fun(v,_)=>if Ar s.H.bl.length v&&kR b i l then(put s n o.dst v).bind fun LK=>
      if Zg A call Fa (rs++[(o,s.e,v)]) LK then Xj call Fa n all b rest (i+1) LK (l++[.no]) (rs++[(o,s.e,v)])else none
     else none
    else(TN A call Fa (Zc A Fa s o (quietAt A Fa all.toList b i o)) s o).bind fun(v,s')=>(put s' n o.dst v).bind fun LK=>
     if Zg A call Fa rs LK then Xj call Fa n all b rest (i+1) LK (l++[Zc A Fa s o (quietAt A Fa all.toList b i o)]) rs else none
   |false=>(put s n o.dst (.v (.Sc []))).bind fun s'=>if Zg A call Fa rs s' then Xj call Fa n all b rest (i+1) s' (l++[.no]) rs else none
noncomputable def region(call:Callee)(Fa:List Nat)(n:Nat)(os:Array Oper)(draw:Bool)(s:S):Option S:=
 if draw then
  if aG os (vk os.toList [])then
   (Xj A call Fa n os (vk os.toList []) os.toList 0 s [] []).bind fun(s',l)=>if Nu (vk os.toList []) l then some s' else none
  else none
 else ops A call Fa n os os.toList s
inductive Ex where
 |normal
 |exit (id:Nat)
 |ret
 deriving DecidableEq
def Ym:Nat:=18446744073709551616
def Gt(body:S->Option (Ex×S)):Nat->S->Option (Ex×S)
 |0,_=>none
 |n+1,s=>(body s).bind fun
  |(.normal,s')=>Gt body n s'
  |(ex,s')=>some (ex,s')
def clean(keep:List Nat)(s:S):S:={ s with e:=keep.map fun i=>(i,get s.e i) }
def oz(e:List (Nat×SV)):List Nat->Option (List (Nat×AV))
 |[]=>some []
 |i::is=>(match get e i with| .v a=>some a|_=>some .Sb).bind fun a=>(oz e is).map fun l=>(i,a)::l
def De:List (Nat×AV)->List (Nat×SV)
 |[]=>[]
 |(i,a)::l=>(i,.v a)::De l
def Yi:List Nat->List AV->List (Nat×SV)->List (Nat×SV)
 |p::ps,a::as,e=>Yi ps as ((p,.v a)::e)
 |_,_,e=>e
def sG:Option Code->Option Ex
 |none=>some .normal
 |some .ret=>some .ret
 |some (.exit id)=>some (.exit id)
 |_=>none
def Ex.jump:Ex->Option Code
 | .normal=>none
 | .ret=>some .ret
 | .exit id=>some (.exit id)
def Ex.Ug:Ex->Bool
 | .normal=>true
 |_=>false
noncomputable def code(call:Callee)(rf:Bool)(Fa keep:List Nat)(n:Nat):Code->S->Option (Ex×S)
 | .skip,s=>some (.normal,s)
 | .label _,s=>some (.normal,s)
 | .region _ os draw,s=>(region A call Fa n os draw s).map fun s'=>(.normal,s')
 | .seq a b,s=>(code call rf Fa keep n a s).bind fun
  |(.normal,s')=>code call rf Fa keep n b s'
  |(ex,s')=>some (ex,s')
 | .cond c x y,s=>(val A s.e c).bind fun
  | .bool b=>if b then code call rf Fa keep n x s else code call rf Fa keep n y s
  |_=>none
 | .block id c,s=>(code call rf Fa keep n c s).bind fun
  |(.exit NC,s')=>if NC=id then some (.normal,s')else some (.exit NC,s')
  |(ex,s')=>some (ex,s')
 | .scope c,s=>code call rf Fa keep n c s
 | .loop c,s=>Gt (fun s=>code call rf Fa keep n c (clean keep s)) Ym s
 | .exit id,s=>some (.exit id,s)
 | .ret,s=>some (.ret,s)
 | .rangeFunc g ps assign body,s=>if rf then
   (val A s.e g).bind fun fv=>(oz s.e keep).bind fun env=>
    (match fv with| .fn f _=>(match A.fns f with|some fn=>if fn.body.isSome then some ()else none|none=>none)|_=>none).bind fun _=>
    (call fv [.yl s.H.bl.length] (push s.H (.loop n keep env ps.toList assign body .ready none))).bind fun(_,H)=>
     match H.bl[s.H.bl.length]? with
     |some (.loop _ _ _ _ _ _ st eV)=>
      (match st with| .busy=>none|_=>some ()).bind fun _=>
       if H.wm<=s.H.bl.length then(sG eV).map fun ex=>(ex,{ s with H:=Ra H s.H.bl.length .dead })else none
     |_=>none
  else none
 |_,_=>none
def ve:List AV->Nat->List (Nat×SV)
 |[],_=>[]
 |a::as,i=>(i,.v a)::ve as (i+1)
def results(s:S):List ResultVar->Option (List AV)
 |[]=>some []
 | .tmp t::rs=>(match get s.e t with| .v a=>some a|_=>none).bind fun a=>(results s rs).bind fun l=>some (a::l)
 | .cell p t::rs=>(load A s t (get s.e p)).bind fun a=>(results s rs).bind fun l=>some (a::l)
def result:List AV->AV
 |[a]=>a
 |l=> .Sc l
noncomputable def call:Nat->Callee
 |0,_,_,_=>none
 |k+1,.fn f fh,args,H=>
  match A.ext f with
  |some g=>g (args++fh) H
  |none=>
   match A.fns f with
   |none=>none
   |some fn=>
    match fn.body with
    |none=>none
    |some c=>
     if(args++fh).length<=fn.ntmps then
      (code A (call k) true (A.loc f) (A.keep f) fn.ntmps c ⟨ve (args++fh) 0,[],H⟩).bind fun
       |(.exit _,_)=>none
       |(_,s)=>(results A s fn.results.toList).bind fun l=>
        if A.AU f then freeze 8 s.H (result l)else some (result l,s.H)
     else none
 |k+1,.yl b,args,H=>
  match H.bl[b]? with
  |some (.loop n keep env ps assign body .ready _)=>
   if args.length=ps.length/\H.wm<=b/\ps.all (fun p=>decide (p<n))then
    (code A (call k) false [] keep n assign ⟨Yi ps args (De env),[],H⟩).bind fun
     |(.normal,s)=>
      match s.H.bl[b]? with
      |some (.loop n1 yV oN ps1 ZH B1 .ready dV)=>
       (code A (call k) false [] keep n body { s with H:=Ra s.H b (.loop n1 yV oN ps1 ZH B1 .busy dV) }).bind fun(ex,s2)=>
        match s2.H.bl[b]? with
        |some (.loop n2 cO KH ps2 BA rQ _ _)=>
         some (.bool ex.Ug,Ra s2.H b (.loop n2 cO KH ps2 BA rQ (if ex.Ug then .ready else .done) ex.jump))
        |_=>none
      |_=>none
     |_=>none
   else none
  |_=>none
 |_+1,_,_,_=>none
end
end Go.V
namespace Go.V
open Go
structure Loc where
 R:Nat
 o:Nat
 e:Nat
 sz:Nat
structure Gx where
 D:Nat->Prop
 ρ:Nat->Loc
 Z:Nat->Prop
section
variable (g:Gx)(w:World)
inductive mb:AV->Value->Prop
 |Sb (v:Value):mb .Sb v
 |bool (b:Bool):mb (.bool b) (.bool b)
 |int (k:IntKind) (n:Int):mb (.int k n) (.int k n)
 |str (s:ByteArray):mb (.str s) (.string s)
 |Oe:mb .Oe (.pointer none)
 |ptr (b r c:Nat):g.D b->mb (.ptr b r c) (.pointer (some ⟨(g.ρ b).R,(g.ρ b).o+r * (g.ρ b).sz+c,none⟩))
 |Ed (row:List AV) (a:Addr) (vs:Nat->Value):a.spot=none->g.Z a.block->
  (∀c,c<row.length->w.cell? ⟨a.block,a.off+c,none⟩=some (vs c))->(∀c,c<row.length->(vs c).oneCell'=true)->
  (∀(c:Nat)(x:AV),row[c]?=some x->mb x (vs c))->mb (.Ed row) (.pointer (some a))
 |Xa:mb .Xa (.slice none 0 0)
 |Ud (a:Addr):mb .Ud (.slice (some a) 0 0)
 |sl (b r n cap:Nat):g.D b->n<=cap->(g.ρ b).o+(r+cap) * (g.ρ b).sz<=(g.ρ b).e->cap<=9223372036854775807->
  mb (.sl b r n) (.slice (some ⟨(g.ρ b).R,(g.ρ b).o+r * (g.ρ b).sz,none⟩) n cap)
 |BI (b r:Nat) (a:Addr):g.D b->mb (.sl b r 0) (.slice (some a) 0 0)
 |lit (rows:List (List AV)) (a:Addr) (cap sz:Nat) (vs:Nat->Nat->Value):a.spot=none->rows.length<=cap->
  (rows≠[]->g.Z a.block)->(∀(i:Nat)(row:List AV),rows[i]?=some row->row.length=sz)->
  (∀i c,i<rows.length->c<sz->w.cell? ⟨a.block,a.off+i * sz+c,none⟩=some (vs i c))->
  (∀i c,i<rows.length->c<sz->(vs i c).oneCell'=true)->
  (∀(i:Nat)(row:List AV)(c:Nat)(x:AV),rows[i]?=some row->row[c]?=some x->mb x (vs i c))->mb (.lit sz rows) (.slice (some a) rows.length cap)
 |lits (sz:Nat) (a:Addr):mb (.lit sz []) (.slice (some a) 0 0)
 |Jf:mb .Jf (.map none)
 |mp (b:Nat):g.D b->mb (.mp b) (.map (some (g.ρ b).R))
 |bf:mb .bf .nilFunc
 |fn (f:FuncId) (fh:List AV) (vs:List Value):vs.length=fh.length->
  (∀(i:Nat)(x:AV)(v:Value),fh[i]?=some x->vs[i]?=some v->mb x v)->mb (.fn f fh) (.func (.func f) #[] vs.toArray)
 |yl (b:Nat):g.D b->mb (.yl b) (.func (.yield (g.ρ b).R) #[] #[])
 |Rg:mb .Rg .nilIface
 |agg (cs:List AV) (vs:List Value):vs.length=cs.length->(∀v∈vs,v.oneCell'=true)->
  (∀(i:Nat)(x:AV)(v:Value),cs[i]?=some x->vs[i]?=some v->mb x v)->mb (.agg cs) (.agg vs.toArray)
 |Sc (cs:List AV) (vs:List Value):vs.length=cs.length->
  (∀(i:Nat)(x:AV)(v:Value),cs[i]?=some x->vs[i]?=some v->mb x v)->mb (.Sc cs) (.tuple vs.toArray)
end
structure Gx.Le(g:Gx)(w:World)(g':Gx)(w':World):Prop where
 D:∀b,g.D b->g'.D b/\g'.ρ b=g.ρ b
 Z:∀R,g.Z R->g'.Z R/\w'.heap[R]?=w.heap[R]?
theorem cell_of_heap{w w':World}{a:Addr}(h:w'.heap[a.block]?=w.heap[a.block]?):w'.cell? a=w.cell? a:=by
 simp[World.cell?,h]
theorem mb.mono{g g':Gx}{w w':World}(h:g.Le w g' w'){x:AV}{v:Value}(hx:mb g w x v):mb g' w' x v:=by
 induction hx with
 |Sb v=>exact .Sb v
 |bool b=>exact .bool b
 |int k n=>exact .int k n
 |str s=>exact .str s
 |Oe=>exact .Oe
 |ptr b r c hd=>have:=h.D b hd;rw[<- this.2];exact .ptr b r c this.1
 |Ed row a vs hs hz hc h1 _ ih=>
  exact .Ed row a vs hs (h.Z _ hz).1 (fun c Mn=>(cell_of_heap (a:=⟨a.block,a.off+c,none⟩) (h.Z _ hz).2).trans (hc c Mn)) h1 ih
 |Xa=>exact .Xa
 |Ud a=>exact .Ud a
 |sl b r n cap hd hn he hm=>
  have:=h.D b hd;rw[<- this.2];exact .sl b r n cap this.1 hn (by rw[this.2];exact he) hm
 |BI b r a hd=>exact .BI b r a (h.D b hd).1
 |lit rows a cap sz vs hs hc hz hl hw h1 _ ih=>
  refine .lit rows a cap sz vs hs hc (fun Uc=>(h.Z _ (hz Uc)).1) hl (fun i c hi Mn=> ?_) h1 ih;have Uc:rows≠[]:=by intro e;subst e;simp at hi
  exact(cell_of_heap (a:=⟨a.block,a.off+i * sz+c,none⟩) (h.Z _ (hz Uc)).2).trans (hw i c hi Mn)
 |lits sz a=>exact .lits sz a
 |Jf=>exact .Jf
 |mp b hd=>have:=h.D b hd;rw[<- this.2];exact .mp b this.1
 |bf=>exact .bf
 |fn f fh vs hl _ ih=>exact .fn f fh vs hl ih
 |yl b hd=>have:=h.D b hd;rw[<- this.2];exact .yl b this.1
 |Rg=>exact .Rg
 |agg cs vs hl h1 _ ih=>exact .agg cs vs hl h1 ih
 |Sc cs vs hl _ ih=>exact .Sc cs vs hl ih
def Row(g:Gx)(w:World)(R e:Nat)(cs:Array Value):Prop:=
 ∃T fz,w.heap[R]?=some (.cells cs T fz)/\cs.size=e/\(∀ off,off<e->¬(fz.1<=off/\off<fz.2))/\¬g.Z R
def Ye(g:Gx)(w:World)(cs:Array Value)(at_:Nat)(row:List AV):Prop:=
 ∀c x,row[c]?=some x->∃v,cs[at_+c]?=some v/\v.oneCell'=true/\mb g w x v
theorem Ye.mono{g g':Gx}{w w':World}(h:g.Le w g' w'){cs:Array Value}{k:Nat}{row:List AV}(hr:Ye g w cs k row):Ye g' w' cs k row:=
 fun c x hx=>let⟨v,h1,h2,h3⟩:=hr c x hx;⟨v,h1,h2,h3.mono h⟩
def XD(w:World)(l:Loc):Option (TypeId×Nat)->Prop
 |none=>True
 |some (T,k)=>(∃cs fz,w.heap[l.R]?=some (.cells cs T fz))/\(1<=k->l.o=0)/\(2<=k->l.e=l.sz)
theorem XD.of{w w':World}{l:Loc}{ty:Option (TypeId×Nat)}(h:XD w l ty)(hR:∀cs T fz,w.heap[l.R]?=some (.cells cs T fz)->∃Jh fz',w'.heap[l.R]?=some (.cells Jh T fz')):XD w' l ty:=by
 cases ty with
 |none=>trivial
 |some p=>
  obtain⟨T,k⟩:=p;obtain⟨⟨cs,fz,h1⟩,h2,h3⟩:=h;exact⟨hR cs T fz h1,h2,h3⟩
theorem XD.same{w w':World}{l:Loc}{ty:Option (TypeId×Nat)}(h:XD w l ty)(hR:w'.heap[l.R]?=w.heap[l.R]?):XD w' l ty:=
 h.of fun cs T fz h=>⟨cs,fz,by rw[hR];exact h⟩
def Cg(g:Gx)(w:World)(l:Loc):AB->Prop
 | .dead=>True
 | .cells rows sz ty=>XD w l ty/\0<sz/\l.sz=sz/\l.o+rows.length * sz<=l.e/\∃cs,Row g w l.R l.e cs/\
  ∀r row,rows[r]?=some row->row.length=sz/\Ye g w cs (l.o+r * sz) row
 | .map es=>∃ng clock,w.heap[l.R]?=some (.map ng clock)/\¬g.Z l.R/\ng.size=es.length/\
  ∀(i:Nat)(k x:AV)(e:MapEntry),es[i]?=some (k,x)->ng[i]?=some e->AV.isKey k=true/\mb g w k e.key/\mb g w x e.val
 | .loop n _ env ps assign body st eV=>∃r:Loop,w.heap[l.R]?=some (.loop r)/\¬g.Z l.R/\r.state=st/\r.pending=eV/\r.params.toList=ps/\r.assign=assign/\r.body=body/\r.tmps.size=n/\
  ∀(t:Nat)(a:AV),get (De env) t= .v a->mb g w a (r.tmps.getD t undef)
def Zd:AB->Bool
 | .dead=>false
 |_=>true
def live(g:Gx)(H:AH)(b:Nat):Prop:=g.D b/\∃x,H.bl[b]?=some x/\Zd x=true
structure Ro(g:Gx)(w:World)(i:Nat)(row:List AV):Prop where
 v:mb g w (.Ed row) (.pointer (some ⟨i,0,none⟩))
 n:∃cs T f,w.heap[i]?=some (.cells cs T f)/\cs.size=row.length
theorem Ro.mono{g g':Gx}{w w':World}(h:g.Le w g' w'){i:Nat}{row:List AV}(hx:Ro g w i row):Ro g' w' i row:=by
 obtain⟨h1,cs,T,f,h2,h3⟩:=hx;refine⟨h1.mono h,cs,T,f,?_,h3⟩;cases h1 with
 |Ed _ _ vs hs hz=>rw[(h.Z _ hz).2];exact h2
structure dc(G:Nat->Option (List AV))(g:Gx)(w:World)(H:AH):Prop where
 Pa:∀i row,G i=some row->Ro g w i row
 Ie:∀b,g.D b->b<H.bl.length
 Vc:∀b x,g.D b->H.bl[b]?=some x->Cg g w (g.ρ b) x
 inj:∀b b',live g H b->live g H b'->b≠b'->(g.ρ b).R≠(g.ρ b').R
 Eu:∀R,g.Z R->R<w.heap.size
theorem Za{α:Type}{a:Array α}{i:Nat}{x:α}(h:a[i]?=some x):i<a.size:=by
 rcases Vb i a.size with h'|h'
 ·exact h'
 ·simp[Array.getElem?_eq_none h']at h
theorem dc.lt{G:Nat->Option (List AV)}{g:Gx}{w:World}{H:AH}(h:dc G g w H){b:Nat}(hb:live g H b):(g.ρ b).R<w.heap.size:=by
 obtain⟨hd,x,hx,hl⟩:=hb;have:=h.Vc b x hd hx;cases x with
 |dead=>simp[Zd]at hl
 |cells rows sz ty=>obtain⟨_,_,_,_,cs,⟨T,fz,hR,_⟩,_⟩:=this;exact Za hR
 |map es=>obtain⟨ng,clock,hR,_⟩:=this;exact Za hR
 |loop=>obtain⟨r,hR,_⟩:=this;exact Za hR
theorem dc.Vm{G:Nat->Option (List AV)}{g:Gx}{w:World}{H:AH}(h:dc G g w H){b:Nat}(hb:live g H b):¬g.Z (g.ρ b).R:=by
 obtain⟨hd,x,hx,hl⟩:=hb;have:=h.Vc b x hd hx;cases x with
 |dead=>simp[Zd]at hl
 |cells rows sz ty=>obtain⟨_,_,_,_,cs,⟨T,fz,hR,_,_,hz⟩,_⟩:=this;exact hz
 |map es=>obtain⟨ng,clock,hR,hz,_⟩:=this;exact hz
 |loop=>obtain⟨r,hR,hz,_⟩:=this;exact hz
def Fp(g:Gx)(H:AH)(R:Nat):Prop:=∃b,live g H b/\(g.ρ b).R=R
structure Ext(g:Gx)(w:World)(H:AH)(g':Gx)(w':World)(H':AH):Prop where
 D:∀b,g.D b->g'.D b/\g'.ρ b=g.ρ b
 Pz:∀b,g'.D b->g.D b\/H.bl.length<=b
 Z:∀R,g.Z R->g'.Z R
 Yq:∀R,g'.Z R->g.Z R\/Fp g H R\/w.heap.size<=R
 fp:∀R,Fp g' H' R->Fp g H R\/w.heap.size<=R
 Fk:∀R,R<w.heap.size->¬Fp g H R->w'.heap[R]?=w.heap[R]?
 size:w.heap.size<=w'.heap.size
 len:H.bl.length<=H'.bl.length
 wm:H'.wm=H.wm
 quiet:∀b,b<H.wm->b<H.bl.length->H'.bl[b]?=H.bl[b]?
 still:∀b,b<H.wm->live g H b->w'.heap[(g.ρ b).R]?=w.heap[(g.ρ b).R]?
 io:w'.os=w.os/\w'.output=w.output
theorem dc.le{G:Nat->Option (List AV)}{g:Gx}{w:World}{H:AH}{g':Gx}{w':World}{H':AH}(hw:dc G g w H)(h:Ext g w H g' w' H'):g.Le w g' w':=
 ⟨h.D,fun R hR=>⟨h.Z R hR,h.Fk R (hw.Eu R hR) (fun⟨_,hb,e⟩=>hw.Vm hb (e ▸ hR))⟩⟩
theorem Ext.refl(g:Gx)(w:World)(H:AH):Ext g w H g w H:=
 ⟨fun _ h=>⟨h,rfl⟩,fun _ h=> .inl h,fun _ h=>h,fun _ h=> .inl h,fun _ h=> .inl h,fun _ _ _=>rfl,va _,va _,rfl,fun _ _ _=>rfl,fun _ _ _=>rfl,⟨rfl,rfl⟩⟩
theorem Ext.trans{g g1 g2:Gx}{w w1 w2:World}{H H1 H2:AH}(h:Ext g w H g1 w1 H1)(h':Ext g1 w1 H1 g2 w2 H2):Ext g w H g2 w2 H2 where
 D b hb:=⟨(h'.D b (h.D b hb).1).1,(h'.D b (h.D b hb).1).2.trans (h.D b hb).2⟩
 Pz b hb:=(h'.Pz b hb).elim (h.Pz b) fun hl=> .inr (Ib h.len hl)
 Z R hR:=h'.Z R (h.Z R hR)
 Yq R hR:=by
  rcases h'.Yq R hR with h1|h1|h1
  ·exact h.Yq R h1
  ·exact .inr (h.fp R h1)
  ·exact .inr (.inr (Ib h.size h1))
 fp R hR:=by
  rcases h'.fp R hR with h1|h1
  ·exact h.fp R h1
  ·exact .inr (Ib h.size h1)
 Fk R hR hn:=by
  refine(h'.Fk R (zb hR h.size) fun hf=> ?_).trans (h.Fk R hR hn);rcases h.fp R hf with h1|h1
  ·exact hn h1
  ·omega
 size:=Ib h.size h'.size
 len:=Ib h.len h'.len
 wm:=h'.wm.trans h.wm
 quiet b hb hl:=(h'.quiet b (h.wm ▸ hb) (zb hl h.len)).trans (h.quiet b hb hl)
 still b hb hv:=by
  have Ac:b<H.bl.length:=by obtain⟨_,x,hx,_⟩:=hv;rcases Vb b H.bl.length with h|h;exact h;simp[Ab h]at hx
  have e:=(h.D b hv.1).2;have W7:live g1 H1 b:=⟨(h.D b hv.1).1,by rw[h.quiet b hb Ac];exact hv.2⟩;have h1:=h'.still b (h.wm ▸ hb) W7;rw[e]at h1;exact h1.trans (h.still b hb hv)
 io:=⟨h'.io.1.trans h.io.1,h'.io.2.trans h.io.2⟩
structure Fx where
 E:Nat->Prop
 φ:Nat->Nat
 W:Nat->Prop
structure Td(g:Gx)(f:Fx)(w:World)(H:AH)(F:List (List AV)):Prop where
 Ie:∀i,f.E i->i<F.length
 Vc:∀i row,f.E i->F[i]?=some row->∃cs,Row g w (f.φ i) row.length cs/\Ye g w cs 0 row
 inj:∀i j,f.E i->f.E j->i≠j->f.φ i≠f.φ j
 apart:∀i,f.E i->¬Fp g H (f.φ i)
theorem Td.lt{g:Gx}{f:Fx}{w:World}{H:AH}{F:List (List AV)}(h:Td g f w H F){i:Nat}(hi:f.E i):f.φ i<w.heap.size:=by
 have hl:=h.Ie i hi;obtain⟨cs,⟨T,fz,hR,_⟩,_⟩:=h.Vc i F[i] hi (by simp[hl]);exact Za hR
theorem Td.Vm{g:Gx}{f:Fx}{w:World}{H:AH}{F:List (List AV)}(h:Td g f w H F){i:Nat}(hi:f.E i):¬g.Z (f.φ i):=by
 have hl:=h.Ie i hi;obtain⟨cs,⟨T,fz,hR,_,_,hz⟩,_⟩:=h.Vc i F[i] hi (by simp[hl]);exact hz
def Fe(g:Gx)(f:Fx)(w:World):SV->Value->Prop
 | .v a,v=>mb g w a v
 | .loc i c,v=>f.E i/\v= .pointer (some ⟨f.φ i,c,none⟩)
structure Bg(g:Gx)(f:Fx)(w:World)(H:AH)(F:List (List AV))(g':Gx)(f':Fx)(w':World)(H':AH)(F':List (List AV)):Prop where
 D:∀b,g.D b->g'.D b/\g'.ρ b=g.ρ b
 Pz:∀b,g'.D b->g.D b\/H.bl.length<=b
 Z:∀R,g.Z R->g'.Z R
 Yq:∀R,g'.Z R->g.Z R\/Fp g H R\/w.heap.size<=R
 fp:∀R,Fp g' H' R->Fp g H R\/w.heap.size<=R
 E:∀i,f.E i->f'.E i/\f'.φ i=f.φ i
 B7:∀i,f'.E i->f.E i\/F.length<=i
 qI:∀i,f'.E i->¬f.E i->w.heap.size<=f'.φ i
 Fk:∀R,R<w.heap.size->¬Fp g H R->(∀i,f.E i->f.φ i≠R)->w'.heap[R]?=w.heap[R]?
 size:w.heap.size<=w'.heap.size
 len:H.bl.length<=H'.bl.length
 bj:F.length<=F'.length
 wm:H'.wm=H.wm
 quiet:∀b,b<H.wm->b<H.bl.length->H'.bl[b]?=H.bl[b]?
 still:∀b,b<H.wm->live g H b->w'.heap[(g.ρ b).R]?=w.heap[(g.ρ b).R]?
 W:∀i,f.E i->(f'.W i↔f.W i)
 u7:∀i,f'.E i->¬f.E i->f'.W i
 own:∀i,f.E i->¬f.W i->w'.heap[f.φ i]?=w.heap[f.φ i]?
 io:w'.os=w.os/\w'.output=w.output
theorem Bg.le{G:Nat->Option (List AV)}{g g':Gx}{f f':Fx}{w w':World}{H H':AH}{F F':List (List AV)}(hw:dc G g w H)(hf:Td g f w H F)(h:Bg g f w H F g' f' w' H' F'):g.Le w g' w':=
 ⟨h.D,fun R hR=>⟨h.Z R hR,h.Fk R (hw.Eu R hR) (fun⟨_,hb,e⟩=>hw.Vm hb (e ▸ hR)) (fun _ hi e=>hf.Vm hi (e ▸ hR))⟩⟩
theorem Bg.refl(g:Gx)(f:Fx)(w:World)(H:AH)(F:List (List AV)):Bg g f w H F g f w H F:=
 ⟨fun _ h=>⟨h,rfl⟩,fun _ h=> .inl h,fun _ h=>h,fun _ h=> .inl h,fun _ h=> .inl h,fun _ h=>⟨h,rfl⟩,fun _ h=> .inl h,fun _ h h'=>absurd h h',fun _ _ _ _=>rfl,va _,va _,va _,rfl,fun _ _ _=>rfl,fun _ _ _=>rfl,fun _ _=>Iff.rfl,fun _ h h'=>absurd h h',fun _ _ _=>rfl,⟨rfl,rfl⟩⟩
theorem Bg.trans{g g1 g2:Gx}{f f1 f2:Fx}{w w1 w2:World}{H H1 H2:AH}{F F1 F2:List (List AV)}
  (h:Bg g f w H F g1 f1 w1 H1 F1) (h':Bg g1 f1 w1 H1 F1 g2 f2 w2 H2 F2):Bg g f w H F g2 f2 w2 H2 F2 where
 D b hb:=⟨(h'.D b (h.D b hb).1).1,(h'.D b (h.D b hb).1).2.trans (h.D b hb).2⟩
 Pz b hb:=(h'.Pz b hb).elim (h.Pz b) fun hl=> .inr (Ib h.len hl)
 Z R hR:=h'.Z R (h.Z R hR)
 Yq R hR:=by
  rcases h'.Yq R hR with h1|h1|h1
  ·exact h.Yq R h1
  ·exact .inr (h.fp R h1)
  ·exact .inr (.inr (Ib h.size h1))
 fp R hR:=by
  rcases h'.fp R hR with h1|h1
  ·exact h.fp R h1
  ·exact .inr (Ib h.size h1)
 E i hi:=⟨(h'.E i (h.E i hi).1).1,(h'.E i (h.E i hi).1).2.trans (h.E i hi).2⟩
 B7 i hi:=(h'.B7 i hi).elim (h.B7 i) fun hl=> .inr (Ib h.bj hl)
 qI i hi hn:=by
  by_cases h1:f1.E i
  ·rw[(h'.E i h1).2];exact h.qI i h1 hn
  ·exact Ib h.size (h'.qI i hi h1)
 Fk R hR hn hi:=by
  refine(h'.Fk R (zb hR h.size) (fun hf=> ?_) (fun i h1 e=> ?_)).trans (h.Fk R hR hn hi)
  ·rcases h.fp R hf with h1|h1
   ·exact hn h1
   ·omega
  ·by_cases h2:f.E i
   ·exact hi i h2 ((h.E i h2).2 ▸ e)
   ·have:=h.qI i h1 h2;omega
 size:=Ib h.size h'.size
 len:=Ib h.len h'.len
 bj:=Ib h.bj h'.bj
 wm:=h'.wm.trans h.wm
 quiet b hb hl:=(h'.quiet b (h.wm ▸ hb) (zb hl h.len)).trans (h.quiet b hb hl)
 still b hb hv:=by
  have Ac:b<H.bl.length:=by obtain⟨_,x,hx,_⟩:=hv;rcases Vb b H.bl.length with h|h;exact h;simp[Ab h]at hx
  have e:=(h.D b hv.1).2;have W7:live g1 H1 b:=⟨(h.D b hv.1).1,by rw[h.quiet b hb Ac];exact hv.2⟩;have h1:=h'.still b (h.wm ▸ hb) W7;rw[e]at h1;exact h1.trans (h.still b hb hv)
 W i hi:=(h'.W i (h.E i hi).1).trans (h.W i hi)
 u7 i hi hn:=by
  by_cases h1:f1.E i
  ·exact(h'.W i h1).2 (h.u7 i h1 hn)
  ·exact h'.u7 i hi h1
 own i hi hn:=by
  have e:=(h.E i hi).2;have h1:=h'.own i (h.E i hi).1 (fun hw=>hn ((h.W i hi).1 hw));rw[e]at h1;exact h1.trans (h.own i hi hn)
 io:=⟨h'.io.1.trans h.io.1,h'.io.2.trans h.io.2⟩
theorem Fe.mono{g g':Gx}{f f':Fx}{w w':World}(h:g.Le w g' w')(hE:∀i,f.E i->f'.E i/\f'.φ i=f.φ i){x:SV}{v:Value}(hx:Fe g f w x v):Fe g' f' w' x v:=by
 cases x with
 |v a=>exact mb.mono h hx
 |loc i c=>obtain⟨h1,h2⟩:=hx;exact⟨(hE i h1).1,by rw[(hE i h1).2];exact h2⟩
def Ze(g:Gx)(f:Fx)(w:World)(e:List (Nat×SV))(tmps:Array Value):Prop:=
 ∀t,Fe g f w (get e t) (tmps.getD t undef)
def Marks(g:Gx)(w:World):List Deferred->Prop
 |[]=>True
 |d::ds=>(∃r,d.target= .collected r/\w.heap[r]?=some (.deferred (some []))/\¬g.Z r/\∀d'∈ds,d'.target≠ .collected r)/\Marks g w ds
def YD(w:World)(ds ds':List Deferred):Prop:=∀d∈ds',d∈ds\/∃r,d.target= .collected r/\w.heap.size<=r
theorem YD.refl(w:World)(ds:List Deferred):YD w ds ds:=fun _ h=> .inl h
theorem YD.trans{w w1:World}{d d1 d2:List Deferred}(hs:w.heap.size<=w1.heap.size)(h:YD w d d1)(h':YD w1 d1 d2):YD w d d2:=fun x hx=>by
 rcases h' x hx with h1|⟨r,h1,h2⟩
 ·exact h x h1
 ·exact .inr ⟨r,h1,by omega⟩
theorem dc.Dr{G:Nat->Option (List AV)}{g:Gx}{w:World}{H:AH}(h:dc G g w H){r:Nat}{x:Option (List Deferred)}(hr:w.heap[r]?=some (.deferred x)):¬Fp g H r:=by
 rintro⟨b,⟨hd,y,hy,hl⟩,rfl⟩
 have:=h.Vc b y hd hy;cases y with
 |dead=>simp[Zd]at hl
 |cells rows sz ty=>obtain⟨_,_,_,_,cs,⟨T,fz,hR,_⟩,_⟩:=this;rw[hr]at hR;simp at hR
 |map es=>obtain⟨ng,clock,hR,_⟩:=this;rw[hr]at hR;simp at hR
 |loop=>obtain⟨q,hR,_⟩:=this;rw[hr]at hR;simp at hR
theorem Td.Dr{g:Gx}{f:Fx}{w:World}{H:AH}{F:List (List AV)}(h:Td g f w H F){r:Nat}{x:Option (List Deferred)}(hr:w.heap[r]?=some (.deferred x)){i:Nat}(hi:f.E i):f.φ i≠r:=by
 rintro rfl
 have hl:=h.Ie i hi;obtain⟨cs,⟨T,fz,hR,_⟩,_⟩:=h.Vc i F[i] hi (by simp[hl]);rw[hr]at hR;simp at hR
theorem Marks.step{G:Nat->Option (List AV)}{g g':Gx}{f f':Fx}{w w':World}{H H':AH}{F F':List (List AV)}(hw:dc G g w H)(hf:Td g f w H F)(h:Bg g f w H F g' f' w' H' F'):∀{ds:List Deferred},Marks g w ds->Marks g' w' ds
 |[],_=>trivial
 |d::ds,⟨⟨r,h1,h2,h3,h4⟩,hm⟩=>⟨⟨r,h1,by
  rw[h.Fk r (Za h2) (hw.Dr h2) (fun i hi=>hf.Dr h2 hi)];exact h2,fun hz=>by
  rcases h.Yq r hz with hz|hz|hz
  ·exact h3 hz
  ·exact hw.Dr h2 hz
  ·have:=Za h2;omega,h4⟩,Marks.step hw hf h hm⟩
structure St(G:Nat->Option (List AV))(g:Gx)(f:Fx)(s:S)(n:Nat)(a:Act)(w:World):Prop where
 hw:dc G g w s.H
 hf:Td g f w s.H s.F
 he:Ze g f w s.e a.tmps
 hn:a.tmps.size=n
 hm:Marks g w a.defers
 hW:∀i,f.E i->f.W i
theorem Bg.Nad{g g':Gx}{f f':Fx}{w w':World}{H H':AH}{F F':List (List AV)}(h:Bg g f w H F g' f' w' H' F')(hW:∀i,f.E i->f.W i):∀i,f'.E i->f'.W i:=fun i hi=>by
 by_cases h1:f.E i
 ·exact(h.W i h1).2 (hW i h1)
 ·exact h.u7 i hi h1
end Go.V
namespace Go.V
open Go
theorem pick{α β:Type}(Q:Nat->α->β->Prop):∀l:List α,(∀(j:Nat)(x:α),l[j]?=some x->∃v,Q j x v)->
  ∃vs:List β,vs.length=l.length/\∀(j:Nat)(x:α)(v:β),l[j]?=some x->vs[j]?=some v->Q j x v:=by
 intro l;induction l generalizing Q with
 |nil=>intro _;exact⟨[],rfl,fun j x v h=>by simp at h⟩
 |cons a l ih=>
  intro h;obtain⟨v0,h0⟩:=h 0 a rfl;obtain⟨vs,hl,hv⟩:=ih (fun j=>Q (j+1)) (fun j x hx=>h (j+1) x (by simpa using hx));refine⟨v0::vs,by simp[hl],fun j x v hx Ht=> ?_⟩;cases j with
  |zero=>simp at hx Ht;subst hx;subst Ht;exact h0
  |succ j=>exact hv j x v (by simpa using hx) (by simpa using Ht)
theorem Ag(R o n:Nat):(⟨R,o,none⟩:Addr).add n=⟨R,o+n,none⟩:=by
 unfold Addr.add;split<;>simp_all
theorem Ak{a:Addr}(h:a.spot=none):a=⟨a.block,a.off,none⟩:=by cases a;simp_all
def zm(g:Gx)(w:World)(R base:Nat)(row:List AV):Prop:=
 ∀(j:Nat)(x:AV),row[j]?=some x->∃v,w.cell? ⟨R,base+j,none⟩=some v/\v.oneCell'=true/\mb g w x v
theorem zm.BL{g:Gx}{w:World}{R at_:Nat}{cs:Array Value}{row:List AV}{T:TypeId}{fz:Nat×Nat}(hR:w.heap[R]?=some (.cells cs T fz))(h:Ye g w cs at_ row):zm g w R at_ row:=by
 intro j x hx;obtain⟨v,h1,h2,h3⟩:=h j x hx;exact⟨v,by rw[cell_of_row w R _ cs T fz hR];exact h1,h2,h3⟩
section
variable {A:yh}{g:Gx}{w:World}
theorem ur{t:TypeId}{b:Bool}(h:isAgg A t=some b):(Go.isAgg t).run A.P w= .ok b w:=by
 unfold isAgg at h;unfold Go.isAgg;split at h
 ·simp at h;subst h;rename_i fs hu;simp[run_underlying hu]
 ·simp at h;subst h;rename_i n e hu;simp[run_underlying hu]
 ·rename_i d hn1 hn2 hu;simp at h;subst h;simp only[Sem.run_bind,run_underlying hu,Result.andThen_ok,Sem.run_pure]
 ·simp at h
theorem Tc{t:TypeId}{n:Nat}(h:size A t=some n):(sizeOf t).run A.P w= .ok n w:=by
 unfold size at h;cases hi:A.P.info? t with
 |none=>simp[hi]at h
 |some i=>simp[hi]at h;simp[sizeOf,typeInfo,hi,h]
theorem Wp{t : TypeId}{row : List AV}{c R base : Nat}{x : AV}(hp : part A t row c = some x)(hc : zm g w R base row) :
  ∃v, (loadVar t ⟨R, base + c, none⟩).run A.P w = .ok v w ∧ mb g w x v := by
 unfold part at hp
 cases BG : isAgg A t with
 | none => simp[BG]at hp
 | some b =>
  simp only[BG, ga]at hp
  cases b with
  | true =>
   simp only at hp
   cases hn : size A t with
   | none => simp[hn]at hp
   | some n =>
    simp only[hn, ga]at hp
    split at hp
    case isFalse => simp at hp
    case isTrue hle =>
     simp only[Dc]at hp
     subst hp
     obtain⟨vs, hl, hv⟩ := pick (fun j x v => w.cell? ⟨R, base + c + j, none⟩ = some v ∧ v.oneCell' = true ∧ mb g w x v) ((row.drop c).take n)
       (fun j x hx => by
        rw[Db]at hx
        split at hx
        · rw[Ic]at hx
          have := hc (c + j) x hx
          rwa [← Hf]at this
        · simp at hx)
     have hlen : ((row.drop c).take n).length = n := by simp; omega
     have sd : ∀(j : Nat)(v : Value), vs[j]? = some v → ∃x, ((row.drop c).take n)[j]? = some x := fun j v hjv => by
       have : j < vs.length := by rcases Vb j vs.length with h | h; exact h; simp[Ab h]at hjv
       exact⟨_, Ba (hl ▸ this)⟩
     have hlc := run_loadCells_list (P := A.P) w ⟨R, base + c, none⟩ vs (fun j v hjv => by
       rw[Ag]; obtain⟨x, hx⟩ := sd j v hjv; exact(hv j x v hx hjv).1)
     refine⟨.agg vs.toArray, ?_, .agg _ vs (by rw[hl]) (fun v Ht => ?_) (fun i x v hx hi => (hv i x v hx hi).2.2)⟩
     · simp only[loadVar, Sem.run_bind, ur BG, Result.andThen_ok, if_true, Tc hn]
       rw[show n = vs.length by rw[hl, hlen], hlc]; rfl
     · obtain⟨i, hi⟩ := me Ht
       obtain⟨x, hx⟩ := sd i v hi
       exact(hv i x v hx hi).2.1
  | false =>
   simp only at hp
   obtain⟨v, h1, h2, h3⟩ := hc c x hp
   refine⟨v, ?_, h3⟩
   simp[loadVar, ur BG, h1]
theorem jf(P : Program)(R o : Nat)(T : TypeId)(fz : Nat × Nat) : ∀(vs : List Value)(i : Nat)(cur : Array Value)(w : World), w.heap[R]? = some (.cells cur T fz) → o + i + vs.length ≤ cur.size →
  (∀j, j < vs.length → ¬(fz.1 ≤ o + i + j ∧ o + i + j < fz.2)) → (∀v ∈ vs, v.oneCell' = true) →
  (storeCells ⟨R, o, none⟩ vs i).run P w = .ok () (w.setRow R (cur.toList.take (o + i) ++ vs ++ cur.toList.drop (o + i + vs.length)).toArray)
 | [], i, cur, w, hg, _, _, _ => by
  simp only[storeCells, Nn, Bb, Je, List.take_append_drop, Array.toArray_toList]
  rw[setRow_self w R cur T fz hg]
  rfl
 | v :: rest, i, cur, w, hg, hl, hf, h1 => by
  have hi : o + i < cur.size := by simp at hl; omega
  have Di : w.cell? ⟨R, o + i, none⟩ = some cur[o + i] := by simp[World.cell?, hg, hi]
  have uak : w.frozen? ⟨R, o + i, none⟩ = false := by
   have := hf 0 (by simp)
   simp only[World.frozen?, hg, Je]at this ⊢
   simpa using this
  have jc : (Go.store ((⟨R, o, none⟩ : Addr).add i) v).run P w = .ok () (w.setRow R (cur.setIfInBounds (o + i) v)) := by
   rw[Ag, run_store P w _ v _ (h1 v (by simp)), Di]
   simp[uak, setCell_eq_setRow w R (o + i) cur T fz v hg]
  have ih := jf P R o T fz rest (i + 1) (cur.setIfInBounds (o + i) v) (w.setRow R (cur.setIfInBounds (o + i) v)) (setRow_heap w R cur _ T _ hg) (by simp at hl ⊢; omega)
   (fun j hj => by have := hf (j + 1) (by simp; omega); rwa [show o + i + (j + 1) = o + (i + 1) + j by omega]at this) (fun x hx => h1 x (by simp[hx]))
  simp only[storeCells, Sem.run_bind, jc, Result.andThen_ok, ih, setRow_setRow]
  congr 3
  have e := list_seg_step cur.toList (o + i) v rest (by simp at hl ⊢; omega)
  simpa[Array.toList_setIfInBounds, Hf]using e
theorem setRow_size(w:World)(R:Nat)(cs:Array Value):(w.setRow R cs).heap.size=w.heap.size:=by simp[World.setRow]
end
end Go.V
namespace Go.V
open Go
section
variable {G:Nat->Option (List AV)}{g:Gx}{f:Fx}{w:World}{H:AH}{F:List (List AV)}
theorem Gx.Le.heap{w':World}(h:w'.heap=w.heap):g.Le w g w':=⟨fun _ hb=>⟨hb,rfl⟩,fun _ hR=>⟨hR,by rw[h]⟩⟩
theorem dc.heap{w':World}(hw:dc G g w H)(h:w'.heap=w.heap):dc G g w' H where
 Pa i row hg:=(hw.Pa i row hg).mono (.heap h)
 Ie:=hw.Ie
 Vc b x hd hx:=by
  have:=hw.Vc b x hd hx;cases x with
  |dead=>trivial
  |cells rows sz ty=>
   obtain⟨h0,h1,h2,h3,cs,⟨T,fz,hR,h4⟩,h5⟩:=this;exact⟨h0.same (by rw[h]),h1,h2,h3,cs,⟨T,fz,by rw[h];exact hR,h4⟩,fun r row hr=>⟨(h5 r row hr).1,(h5 r row hr).2.mono (.heap h)⟩⟩
  |map es=>
   obtain⟨ng,clock,hR,hz,hl,h5⟩:=this;exact⟨ng,clock,by rw[h];exact hR,hz,hl,fun i k x e he hc=>⟨(h5 i k x e he hc).1,(h5 i k x e he hc).2.1.mono (.heap h),(h5 i k x e he hc).2.2.mono (.heap h)⟩⟩
  |loop=>obtain⟨r,hR,h1,h2,h3,h4,h5,h6,h7,h8⟩:=this;exact⟨r,by rw[h];exact hR,h1,h2,h3,h4,h5,h6,h7,fun t a ha=>(h8 t a ha).mono (.heap h)⟩
 inj:=hw.inj
 Eu R hR:=by rw[h];exact hw.Eu R hR
theorem Td.heap{w':World}(hf:Td g f w H F)(h:w'.heap=w.heap):Td g f w' H F where
 Ie:=hf.Ie
 Vc i row hi hr:=by
  obtain⟨cs,⟨T,fz,hR,h4⟩,h5⟩:=hf.Vc i row hi hr;exact⟨cs,⟨T,fz,by rw[h];exact hR,h4⟩,h5.mono (.heap h)⟩
 inj:=hf.inj
 apart:=hf.apart
theorem Bg.heap{w':World}(h:w'.heap=w.heap)(Qw:w'.os=w.os/\w'.output=w.output:=by first|exact⟨rfl,rfl⟩|assumption):Bg g f w H F g f w' H F:=
 ⟨fun _ h=>⟨h,rfl⟩,fun _ h=> .inl h,fun _ h=>h,fun _ h=> .inl h,fun _ h=> .inl h,fun _ h=>⟨h,rfl⟩,fun _ h=> .inl h,fun _ h h'=>absurd h h',fun _ _ _ _=>by rw[h],by rw[h];exact va _,va _,va _,rfl,fun _ _ _=>rfl,fun _ _ _=>by rw[h],fun _ _=>Iff.rfl,fun _ h h'=>absurd h h',fun _ _ _=>by rw[h],Qw⟩
theorem Xi(H:AH)(b b':Nat)(x:AB):(Ra H b x).bl[b']?=if b=b' then(if b<H.bl.length then some x else none)else H.bl[b']?:=by
 simp only[Ra,Ob]
theorem Qk{b b':Nat}{x:AB}(h:live g (Ra H b x) b'):(b'=b/\Zd x=true)\/(b'≠b/\live g H b'):=by
 obtain⟨hd,y,hy,hl⟩:=h;rw[Xi]at hy;split at hy
 ·rename_i e;split at hy
  ·simp at hy;subst hy;exact .inl ⟨e.symm,hl⟩
  ·simp at hy
 ·rename_i e;exact .inr ⟨fun e'=>e e'.symm,hd,y,hy,hl⟩
theorem Cg.other{w':World}{l:Loc}{x:AB}(hle:g.Le w g w')(hR:Zd x=true->w'.heap[l.R]?=w.heap[l.R]?)(h:Cg g w l x):Cg g w' l x:=by
 cases x with
 |dead=>trivial
 |cells rows sz ty=>
  obtain⟨h0,h1,h2,h3,cs,⟨T,fz,Vy,h4⟩,h5⟩:=h;exact⟨h0.same (hR rfl),h1,h2,h3,cs,⟨T,fz,by rw[hR rfl];exact Vy,h4⟩,fun r row hr=>⟨(h5 r row hr).1,(h5 r row hr).2.mono hle⟩⟩
 |map es=>
  obtain⟨ng,clock,Vy,hz,hl,h5⟩:=h;exact⟨ng,clock,by rw[hR rfl];exact Vy,hz,hl,fun i k x e he hc=>⟨(h5 i k x e he hc).1,(h5 i k x e he hc).2.1.mono hle,(h5 i k x e he hc).2.2.mono hle⟩⟩
 |loop=>obtain⟨r,Vy,h1,h2,h3,h4,h5,h6,h7,h8⟩:=h;exact⟨r,by rw[hR rfl];exact Vy,h1,h2,h3,h4,h5,h6,h7,fun t a ha=>(h8 t a ha).mono hle⟩
theorem Be{w':World}{b:Nat}{x:AB}(hw:dc G g w H)(hf:Td g f w H F)(hb:live g H b)(ag:H.wm<=b)
  (gg:w'.heap.size=w.heap.size) (Nd:∀R,R≠(g.ρ b).R->w'.heap[R]?=w.heap[R]?) (hx:g.Le w g w'->Cg g w' (g.ρ b) x) (Qw:w'.os=w.os/\w'.output=w.output:=by first|exact⟨rfl,rfl⟩|assumption):
  dc G g w' (Ra H b x)/\Td g f w' (Ra H b x) F/\Bg g f w H F g f w' (Ra H b x) F:=by
 have hle:g.Le w g w':=⟨fun _ hb=>⟨hb,rfl⟩,fun R hR=>⟨hR,Nd R (fun e=>hw.Vm hb (e ▸ hR))⟩⟩;have QC:∀R,Fp g (Ra H b x) R->Fp g H R:=fun R⟨b',hl,e⟩=>by
  rcases Qk hl with⟨rfl,_⟩|⟨_,h⟩
  ·exact⟨_,hb,e⟩
  ·exact⟨_,h,e⟩
 refine⟨⟨fun i row hg=>(hw.Pa i row hg).mono hle,fun b' hd=>by simpa[Ra]using hw.Ie b' hd,fun b' y hd hy=> ?_,fun b1 b2 h1 h2 Uc=> ?_,fun R hR=>by rw[gg];exact hw.Eu R hR⟩,
  ⟨hf.Ie,fun i row hi hr=> ?_,hf.inj,fun i hi h=>hf.apart i hi (QC _ h)⟩,?_⟩
 ·rw[Xi]at hy;split at hy
  ·rename_i e;subst e;split at hy
   ·simp at hy;subst hy;exact hx hle
   ·simp at hy
  ·rename_i e;refine(hw.Vc b' y hd hy).other hle (fun hl=>Nd _ (hw.inj b' b ⟨hd,y,hy,hl⟩ hb (fun e'=>e e'.symm)))
 ·have nD:live g H b1:=by rcases Qk h1 with⟨rfl,_⟩|⟨_,h⟩<;>assumption
  have Q2:live g H b2:=by rcases Qk h2 with⟨rfl,_⟩|⟨_,h⟩<;>assumption
  exact hw.inj b1 b2 nD Q2 Uc
 ·obtain⟨cs,⟨T,fz,hR,h4⟩,h5⟩:=hf.Vc i row hi hr;exact⟨cs,⟨T,fz,by rw[Nd _ (fun e=>hf.apart i hi ⟨b,hb,e.symm⟩)];exact hR,h4⟩,h5.mono hle⟩
 ·refine⟨fun _ h=>⟨h,rfl⟩,fun _ h=> .inl h,fun _ h=>h,fun _ h=> .inl h,fun R h=> .inl (QC R h),fun _ h=>⟨h,rfl⟩,fun _ h=> .inl h,fun _ h h'=>absurd h h',fun R _ hn _=>Nd R (fun e=>hn ⟨b,hb,e.symm⟩),by rw[gg];exact va _,by simp[Ra],va _,rfl,fun b' Ld _=> ?_,fun b' Ld hv=>Nd _ (hw.inj b' b hv hb (by omega)),fun _ _=>Iff.rfl,fun _ h h'=>absurd h h',fun i hi _=>Nd _ (fun e=>hf.apart i hi ⟨b,hb,e.symm⟩),Qw⟩;rw[Xi,if_neg (by omega)]
theorem LQ{w':World}{i:Nat}{row:List AV}(hw:dc G g w H)(hf:Td g f w H F)(hi:f.E i)(hWi:f.W i)
  (gg:w'.heap.size=w.heap.size) (Nd:∀R,R≠f.φ i->w'.heap[R]?=w.heap[R]?) (hx:g.Le w g w'->∃cs,Row g w' (f.φ i) row.length cs/\Ye g w' cs 0 row) (Qw:w'.os=w.os/\w'.output=w.output:=by first|exact⟨rfl,rfl⟩|assumption):
  dc G g w' H/\Td g f w' H (F.set i row)/\Bg g f w H F g f w' H (F.set i row):=by
 have hle:g.Le w g w':=⟨fun _ hb=>⟨hb,rfl⟩,fun R hR=>⟨hR,Nd R (fun e=>hf.Vm hi (e ▸ hR))⟩⟩;refine⟨⟨fun i row hg=>(hw.Pa i row hg).mono hle,hw.Ie,fun b y hd hy=>(hw.Vc b y hd hy).other hle (fun hl=>Nd _ (fun e=>hf.apart i hi ⟨b,⟨hd,y,hy,hl⟩,e⟩)),hw.inj,fun R hR=>by rw[gg];exact hw.Eu R hR⟩,
  ⟨fun j hj=>by simpa using hf.Ie j hj,fun j Lb hj hr=> ?_,hf.inj,hf.apart⟩,?_⟩
 ·rw[Ob]at hr;split at hr
  ·rename_i e;subst e;split at hr
   ·simp at hr;subst hr;exact hx hle
   ·simp at hr
  ·rename_i e;obtain⟨cs,⟨T,fz,hR,h4⟩,h5⟩:=hf.Vc j Lb hj hr;exact⟨cs,⟨T,fz,by rw[Nd _ (fun e'=>e ((Uo fun Uc=>hf.inj i j hi hj Uc e'.symm)))];exact hR,h4⟩,h5.mono hle⟩
 ·exact⟨fun _ h=>⟨h,rfl⟩,fun _ h=> .inl h,fun _ h=>h,fun _ h=> .inl h,fun _ h=> .inl h,fun _ h=>⟨h,rfl⟩,fun _ h=> .inl h,fun _ h h'=>absurd h h',fun R _ _ hn=>Nd R (fun e=>hn i hi e.symm),by rw[gg];exact va _,va _,by simp,rfl,fun _ _ _=>rfl,fun b _ hv=>Nd _ (fun e=>hf.apart i hi ⟨b,hv,e⟩),fun _ _=>Iff.rfl,fun _ h h'=>absurd h h',fun j hj hn=>Nd _ (fun e=>hn ((Uo fun Uc=>hf.inj j i hj hi (fun e'=>Uc (e' ▸ hWi)) e))),Qw⟩
def Gx.add(g:Gx)(b:Nat)(l:Loc):Gx:={ g with D:=fun i=>g.D i\/i=b,ρ:=fun i=>if i=b then l else g.ρ i }
def Fx.add(f:Fx)(i R:Nat):Fx:={ E:=fun j=>f.E j\/j=i,φ:=fun j=>if j=i then R else f.φ j,W:=fun j=>f.W j\/j=i }
theorem Nk(H:AH)(x:AB)(b:Nat):(push H x).bl[b]?=if b<H.bl.length then H.bl[b]? else if b=H.bl.length then some x else none:=by
 simp only[push];rcases Nat.lt_trichotomy b H.bl.length with h|h|h
 ·simp[h,Ka]
 ·subst h;simp
 ·rw[Na (by omega),if_neg (by omega),if_neg (by omega)];exact Ab (by simp;omega)
theorem nv{l:Loc}{x:AB}{b:Nat}(Aak:∀b,g.D b->b<H.bl.length)(h:live (g.add H.bl.length l) (push H x) b):b=H.bl.length\/live g H b:=by
 obtain⟨hd,y,hy,hl⟩:=h;rcases hd with hd|hd
 ·right;have:=Aak b hd;rw[Nk,if_pos this]at hy;exact⟨hd,y,hy,hl⟩
 ·exact .inl hd
theorem Mg{l:Loc}{b n:Nat}(h:b≠n):(g.add n l).ρ b=g.ρ b:=by simp[Gx.add,h]
theorem og{l:Loc}{n:Nat}:(g.add n l).ρ n=l:=by simp[Gx.add]
theorem Cg.le{g g':Gx}{w w':World}{l:Loc}{x:AB}(hle:g.Le w g' w')(hR:Zd x=true->w'.heap[l.R]?=w.heap[l.R]?)(hz:Zd x=true->¬g'.Z l.R)(h:Cg g w l x):Cg g' w' l x:=by
 cases x with
 |dead=>trivial
 |cells rows sz ty=>
  obtain⟨h0,h1,h2,h3,cs,⟨T,fz,Vy,h4,h6,_⟩,h5⟩:=h;exact⟨h0.same (hR rfl),h1,h2,h3,cs,⟨T,fz,by rw[hR rfl];exact Vy,h4,h6,hz rfl⟩,fun r row hr=>⟨(h5 r row hr).1,(h5 r row hr).2.mono hle⟩⟩
 |map es=>
  obtain⟨ng,clock,Vy,_,hl,h5⟩:=h;exact⟨ng,clock,by rw[hR rfl];exact Vy,hz rfl,hl,fun i k x e he hc=>⟨(h5 i k x e he hc).1,(h5 i k x e he hc).2.1.mono hle,(h5 i k x e he hc).2.2.mono hle⟩⟩
 |loop=>obtain⟨r,Vy,h1,h2,h3,h4,h5,h6,h7,h8⟩:=h;exact⟨r,by rw[hR rfl];exact Vy,hz rfl,h2,h3,h4,h5,h6,h7,fun t a ha=>(h8 t a ha).mono hle⟩
theorem Hr{w':World}{x:AB}{l:Loc}(hw:dc G g w H)(hf:Td g f w H F)(gg:w.heap.size<=w'.heap.size)
  (hR:l.R=w.heap.size) (Ac:w.heap.size<w'.heap.size) (Nd:∀R,R<w.heap.size->w'.heap[R]?=w.heap[R]?)
  (hx:g.Le w (g.add H.bl.length l) w'->Cg (g.add H.bl.length l) w' l x) (Qw:w'.os=w.os/\w'.output=w.output:=by first|exact⟨rfl,rfl⟩|assumption):
  dc G (g.add H.bl.length l) w' (push H x)/\Td (g.add H.bl.length l) f w' (push H x) F/\Bg g f w H F (g.add H.bl.length l) f w' (push H x) F:=by
 have hold:∀b,g.D b->(g.add H.bl.length l).ρ b=g.ρ b:=fun b hb=>Mg (by have:=hw.Ie b hb;omega)
 have hle:g.Le w (g.add H.bl.length l) w':=⟨fun b hb=>⟨.inl hb,hold b hb⟩,fun R h=>⟨h,Nd R (hw.Eu R h)⟩⟩;have QC:∀R,Fp (g.add H.bl.length l) (push H x) R->Fp g H R\/R=w.heap.size:=fun R⟨b,hb,e⟩=>by
  rcases nv hw.Ie hb with rfl|hb
  ·right;rw[<- e,og,hR]
  ·left;exact⟨b,hb,by rw[<- e,hold b hb.1]⟩
 refine⟨⟨fun i row hg=>(hw.Pa i row hg).mono hle,fun b hb=> ?_,fun b y hd hy=> ?_,fun b b' hb Ld Uc=> ?_,fun R h=>zb (hw.Eu R h) gg⟩,
  ⟨hf.Ie,fun i row hi hr=> ?_,hf.inj,fun i hi h=> ?_⟩,?_⟩
 ·rcases hb with hb|rfl
  ·have:=hw.Ie b hb;simp[push];omega
  ·simp[push]
 ·rcases hd with hd|rfl
  ·have xaa:=hw.Ie b hd;rw[Nk,if_pos xaa]at hy;rw[hold b hd];exact(hw.Vc b y hd hy).le hle (fun hl=>Nd _ (hw.lt ⟨hd,y,hy,hl⟩)) (fun hl=>hw.Vm ⟨hd,y,hy,hl⟩)
  ·rw[Nk,if_neg (by omega),if_pos rfl]at hy;simp at hy;subst hy;rw[og];exact hx hle
 ·rcases nv hw.Ie hb with rfl|h1<;>rcases nv hw.Ie Ld with rfl|h2
  ·exact absurd rfl Uc
  ·rw[og,hold _ h2.1,hR];have:=hw.lt h2;omega
  ·rw[og,hold _ h1.1,hR];have:=hw.lt h1;omega
  ·rw[hold _ h1.1,hold _ h2.1];exact hw.inj _ _ h1 h2 Uc
 ·obtain⟨cs,⟨T,fz,Vy,h4⟩,h5⟩:=hf.Vc i row hi hr;exact⟨cs,⟨T,fz,by rw[Nd _ (hf.lt hi)];exact Vy,h4⟩,h5.mono hle⟩
 ·rcases QC _ h with h|h
  ·exact hf.apart i hi h
  ·have:=hf.lt hi;omega
 ·refine⟨fun b hb=>⟨.inl hb,hold b hb⟩,fun b hb=>hb.elim .inl (fun e=> .inr (by omega)),fun _ h=>h,fun _ h=> .inl h,
   fun R h=>(QC R h).elim .inl (fun e=> .inr (by omega)),fun _ h=>⟨h,rfl⟩,fun _ h=> .inl h,fun _ h h'=>absurd h h',
   fun R hR _ _=>Nd R hR,gg,by simp[push],va _,rfl,fun b _ hl=> ?_,fun b _ hv=>Nd _ (hw.lt hv),fun _ _=>Iff.rfl,fun _ h h'=>absurd h h',fun i hi _=>Nd _ (hf.lt hi),Qw⟩
  rw[Nk,if_pos hl]
theorem fo{w':World}(hw:dc G g w H)(hf:Td g f w H F)(gg:w.heap.size<=w'.heap.size)(Nd:∀R,R<w.heap.size->w'.heap[R]?=w.heap[R]?)(Qw:w'.os=w.os/\w'.output=w.output:=by first|exact⟨rfl,rfl⟩|assumption):
  dc G g w' H/\Td g f w' H F/\Bg g f w H F g f w' H F:=by
 have hle:g.Le w g w':=⟨fun b hb=>⟨hb,rfl⟩,fun R h=>⟨h,Nd R (hw.Eu R h)⟩⟩;refine⟨⟨fun i row hg=>(hw.Pa i row hg).mono hle,hw.Ie,fun b y hd hy=>(hw.Vc b y hd hy).le hle (fun hl=>Nd _ (hw.lt ⟨hd,y,hy,hl⟩)) (fun hl=>hw.Vm ⟨hd,y,hy,hl⟩),hw.inj,fun R h=>zb (hw.Eu R h) gg⟩,
  ⟨hf.Ie,fun i row hi hr=> ?_,hf.inj,hf.apart⟩,?_⟩
 ·obtain⟨cs,⟨T,fz,Vy,h4⟩,h5⟩:=hf.Vc i row hi hr;exact⟨cs,⟨T,fz,by rw[Nd _ (hf.lt hi)];exact Vy,h4⟩,h5.mono hle⟩
 ·exact⟨fun b hb=>⟨hb,rfl⟩,fun b hb=> .inl hb,fun _ h=>h,fun _ h=> .inl h,fun R h=> .inl h,fun i hi=>⟨hi,rfl⟩,
   fun i hi=> .inl hi,fun i hi hn=>absurd hi hn,fun R hR _ _=>Nd R hR,gg,va _,va _,rfl,fun _ _ _=>rfl,fun b _ hv=>Nd _ (hw.lt hv),fun _ _=>Iff.rfl,fun _ h h'=>absurd h h',fun i hi _=>Nd _ (hf.lt hi),Qw⟩
theorem o4{w':World}{row:List AV}(hw:dc G g w H)(hf:Td g f w H F)
  (Ac:w.heap.size<w'.heap.size) (Nd:∀R,R<w.heap.size->w'.heap[R]?=w.heap[R]?)
  (hx:g.Le w g w'->∃cs,Row g w' w.heap.size row.length cs/\Ye g w' cs 0 row) (Qw:w'.os=w.os/\w'.output=w.output:=by first|exact⟨rfl,rfl⟩|assumption):
  dc G g w' H/\Td g (f.add F.length w.heap.size) w' H (F++[row])/\Bg g f w H F g (f.add F.length w.heap.size) w' H (F++[row]):=by
 have hle:g.Le w g w':=⟨fun b hb=>⟨hb,rfl⟩,fun R h=>⟨h,Nd R (hw.Eu R h)⟩⟩;have hold:∀i,f.E i->(f.add F.length w.heap.size).φ i=f.φ i:=fun i hi=>by have:=hf.Ie i hi;simp[Fx.add,Nat.ne_of_lt this]
 refine⟨⟨fun i row hg=>(hw.Pa i row hg).mono hle,hw.Ie,fun b y hd hy=>(hw.Vc b y hd hy).le hle (fun hl=>Nd _ (hw.lt ⟨hd,y,hy,hl⟩)) (fun hl=>hw.Vm ⟨hd,y,hy,hl⟩),hw.inj,fun R h=>Nat.lt_trans (hw.Eu R h) Ac⟩,
  ⟨fun i hi=> ?_,fun i Lb hi hr=> ?_,fun i j hi hj Uc=> ?_,fun i hi h=> ?_⟩,?_⟩
 ·rcases hi with hi|rfl
  ·have:=hf.Ie i hi;simp;omega
  ·simp
 ·rcases hi with hi|rfl
  ·have hl:=hf.Ie i hi;rw[Ka hl]at hr;obtain⟨cs,⟨T,fz,Vy,h4⟩,h5⟩:=hf.Vc i Lb hi hr;rw[hold i hi];exact⟨cs,⟨T,fz,by rw[Nd _ (hf.lt hi)];exact Vy,h4⟩,h5.mono hle⟩
  ·simp at hr;subst hr;have:(f.add F.length w.heap.size).φ F.length=w.heap.size:=by simp[Fx.add]
   rw[this];exact hx hle
 ·have ze:(f.add F.length w.heap.size).φ F.length=w.heap.size:=by simp[Fx.add]
  rcases hi with hi|rfl<;>rcases hj with hj|rfl
  ·rw[hold i hi,hold j hj];exact hf.inj i j hi hj Uc
  ·rw[hold i hi,ze];have:=hf.lt hi;omega
  ·rw[hold j hj,ze];have:=hf.lt hj;omega
  ·exact absurd rfl Uc
 ·rcases hi with hi|rfl
  ·rw[hold i hi]at h;exact hf.apart i hi h
  ·obtain⟨b,hb,e⟩:=h;have:=hw.lt hb;simp[Fx.add]at e;omega
 ·exact⟨fun b hb=>⟨hb,rfl⟩,fun b hb=> .inl hb,fun _ h=>h,fun _ h=> .inl h,fun R h=> .inl h,fun i hi=>⟨.inl hi,hold i hi⟩,
   fun i hi=>hi.elim .inl (fun e=> .inr (by omega)),fun i hi hn=>by rcases hi with hi|rfl;exact absurd hi hn;simp[Fx.add],
   fun R hR _ _=>Nd R hR,ot Ac,va _,by simp,rfl,fun _ _ _=>rfl,fun b _ hv=>Nd _ (hw.lt hv),fun i hi=>⟨fun h=>h.elim id (fun e=>by have:=hf.Ie i hi;omega),.inl⟩,fun i hi hn=> .inr (hi.resolve_left hn),fun i hi _=>Nd _ (hf.lt hi),Qw⟩
end
end Go.V
namespace Go.V
open Go
def VK(G:Nat->Option (List AV))(g:Gx)(f:Fx)(w:World)(s s':S)(v:SV)(r:Result Next):Prop:=
 ∃rv w' g' f',(r= .ok (.value rv) w'\/(r= .ok .skip w'/\rv=undef))/\dc G g' w' s'.H/\Td g' f' w' s'.H s'.F/\Bg g f w s.H s.F g' f' w' s'.H s'.F/\Fe g' f' w' v rv
section
variable {A:yh}{g:Gx}{f:Fx}{w:World}{s:S}{a:Act}
theorem Ue{v:SV}{rv:Value}{r:Result Next}(hw:dc A.Pa g w s.H)(hf:Td g f w s.H s.F)(hr:r= .ok (.value rv) w)(hv:Fe g f w v rv):VK A.Pa g f w s s v r:=
 ⟨rv,w,g,f,.inl hr,hw,hf,.refl _ _ _ _ _,hv⟩
theorem Om{c:Value}{x:AV}(h:Ae c=some x):mb g w x c:=by
 unfold Ae at h;split at h<;>simp at h<;>subst h
 ·exact .bool _
 ·exact .int _ _
 ·exact .str _
 ·exact .Oe
 ·exact .Xa
 ·exact .Jf
 ·exact .bf
 ·exact .Rg
theorem ye{x:Operand}{sv:SV}(h:operand A s.e x=some sv)(hw:dc A.Pa g w s.H)(he:Ze g f w s.e a.tmps):Fe g f w sv (a.eval x):=by
 cases x with
 |tmp t=>simp[operand]at h;subst h;exact he t
 |const c=>
  simp only[operand,ia]at h;obtain⟨x,hx,rfl⟩:=h;exact Om hx
 |global gi=>
  simp only[operand,ia]at h;obtain⟨row,hr,rfl⟩:=h;exact(hw.Pa gi row hr).v
 |func fid=>
  simp[operand]at h;subst h;exact .fn fid [] [] rfl (fun i x v h=>by simp at h)
theorem Ub{x:Operand}{av:AV}(h:val A s.e x=some av)(hw:dc A.Pa g w s.H)(he:Ze g f w s.e a.tmps):mb g w av (a.eval x):=by
 unfold val at h;split at h
 ·rename_i av' ho;simp at h;subst h;exact ye ho hw he
 ·simp at h
theorem Pn:∀{xs:List Operand}{l:List AV},ah A s.e xs=some l->dc A.Pa g w s.H->Ze g f w s.e a.tmps->
  l.length=xs.length/\∀(i:Nat)(x:AV)(v:Value),l[i]?=some x->(xs.map a.eval)[i]?=some v->mb g w x v
 |[],l,h,_,_=>by simp[ah]at h;subst h;exact⟨rfl,fun i x v h=>by simp at h⟩
 |x::xs,l,h,hw,he=>by
  simp only[ah,aa]at h;obtain⟨av,u5,l',bg,h⟩:=h;simp at h;subst h;obtain⟨h1,h2⟩:=Pn bg hw he;refine⟨by simp[h1],fun i y v hy hv=> ?_⟩;cases i with
  |zero=>simp at hy hv;subst hy;subst hv;exact Ub u5 hw he
  |succ i=>exact h2 i y v (by simpa using hy) (by simpa using hv)
theorem qm{x:AV}{cs:List AV}{v:Value}(h:x.cells?=some cs)(hx:mb g w x v):
  v.cells.size=cs.length/\(∀u∈v.cells.toList,u.oneCell'=true)/\∀(i:Nat)(y:AV)(u:Value),cs[i]?=some y->v.cells.toList[i]?=some u->mb g w y u:=by
 have one:∀{y:AV}{u:Value},mb g w y u->u.oneCell'=true->u.cells= #[u]->cs=[y]->
   u.cells.size=cs.length/\(∀z∈u.cells.toList,z.oneCell'=true)/\∀(i:Nat)(y:AV)(z:Value),cs[i]?=some y->u.cells.toList[i]?=some z->mb g w y z:=by
  intro y u hy h1 hc aj;subst aj;rw[hc];refine⟨rfl,fun z hz=>by simp at hz;subst hz;exact h1,fun i y' z Wf hz=> ?_⟩;cases i with
  |zero=>simp at Wf hz;subst Wf;subst hz;exact hy
  |succ i=>simp at Wf
 cases hx
 case agg l vs hl h1 hr=>
  simp[AV.cells?]at h;subst h;refine⟨by simp[Value.cells,hl],fun u hu=>h1 u (by simpa[Value.cells]using hu),fun i y u hy hu=>hr i y u hy (by simpa[Value.cells]using hu)⟩
 case Sb=>simp[AV.cells?]at h
 case Sc=>simp[AV.cells?]at h
 case lits sz a=>
  simp only[AV.cells?,Dc]at h;exact one (.lits sz a) rfl rfl h.symm
 all_goals
  simp only[AV.cells?,Dc]at h;refine one ?_ rfl rfl h.symm;constructor<;>assumption
theorem XD.setRow{w:World}{l:Loc}{ty:Option (TypeId×Nat)}(h:XD w l ty)(Jh:Array Value):XD (w.setRow l.R Jh) l ty:=
 h.of fun cs T fz hR=>⟨Jh,fz,setRow_heap w l.R cs Jh T fz hR⟩
theorem CK(hf:Td g f w s.H s.F){i:Nat}{row:List AV}(hi:f.E i)(hr:s.F[i]?=some row):zm g w (f.φ i) 0 row:=by
 obtain⟨cs,⟨T,fz,hR,_⟩,h5⟩:=hf.Vc i row hi hr;exact .BL hR h5
theorem TD(hw:dc A.Pa g w s.H){b r:Nat}{row:List AV}(hb:g.D b)(hr:rowAt s.H b r=some row):zm g w (g.ρ b).R ((g.ρ b).o+r * (g.ρ b).sz) row:=by
 unfold rowAt at hr;split at hr
 ·rename_i rows sz ty hx;obtain⟨_,_,ue,_,cs,⟨T,fz,hR,_⟩,h5⟩:=hw.Vc b _ hb hx;rw[ue];exact .BL hR (h5 r row hr).2
 ·simp at hr
theorem TH{row:List AV}{p:Addr}(h:mb g w (.Ed row) (.pointer (some p))):zm g w p.block p.off row/\p.spot=none:=by
 cases h with
 |Ed row a vs hs hz hc h1 hr=>
  exact⟨fun j x hx=>⟨vs j,hc j (by rcases Vb j row.length with h|h;exact h;simp[Ab h]at hx),h1 j (by rcases Vb j row.length with h|h;exact h;simp[Ab h]at hx),hr j x hx⟩,hs⟩
theorem YI{t:TypeId}{p:SV}{x:AV}{pv:Value}(h:load A s t p=some x)(hw:dc A.Pa g w s.H)(hf:Td g f w s.H s.F)(hp:Fe g f w p pv):
  ∃ad v,pv= .pointer (some ad)/\(loadVar t ad).run A.P w= .ok v w/\mb g w x v:=by
 unfold load at h;split at h
 ·rename_i i c;simp only[aa]at h;obtain⟨row,hr,hx⟩:=h;obtain⟨hi,rfl⟩:=hp;obtain⟨v,h1,h2⟩:=Wp hx (CK hf hi hr);rw[Re]at h1;exact⟨_,v,rfl,h1,h2⟩
 ·rename_i b r c;simp only[aa]at h;obtain⟨row,hr,hx⟩:=h;cases hp with
  |ptr _ _ _ hb=>
   obtain⟨v,h1,h2⟩:=Wp hx (TD hw hb hr);exact⟨_,v,rfl,h1,h2⟩
 ·rename_i row;have QL:mb g w (.Ed row) pv:=hp;cases QL with
  |Ed _ a vs hs hz hc h1 hr=>
   obtain⟨hca,zf⟩:=TH (.Ed row a vs hs hz hc h1 hr);obtain⟨v,h1,h2⟩:=Wp h hca;rw[Je,<- Ak zf]at h1;exact⟨_,v,rfl,h1,h2⟩
 ·simp at h
theorem rB{t:TypeId}{p:SV}{x:AV}{pv:Value}(h:load A s t p=some x)(hw:dc A.Pa g w s.H)(hf:Td g f w s.H s.F)(hp:Fe g f w p pv):
  ∃v,(Instr.loadAt t pv).run A.P w= .ok v w/\mb g w x v:=by
 obtain⟨ad,v,rfl,h1,h2⟩:=YI h hw hf hp;exact⟨v,by simp[Instr.loadAt,Instr.sureAddr,h1],h2⟩
theorem Sn{g:Gx}{w:World}{cs:Array Value}{base c:Nat}{row Lb new:List AV}{vs:List Value}(h:Bf row c new=some Lb)(hl:vs.length=new.length)
  (hr:Ye g w cs base row) (h1:∀u∈vs,u.oneCell'=true) (hv:∀(i:Nat)(y:AV)(u:Value),new[i]?=some y->vs[i]?=some u->mb g w y u) (aj:base+row.length<=cs.size):
  Lb.length=row.length/\Ye g w (cs.toList.take (base+c)++vs++cs.toList.drop (base+c+vs.length)).toArray base Lb:=by
 unfold Bf at h;split at h
 case isFalse=>simp at h
 case isTrue hle=>
  simp at h;subst h;refine⟨by simp;omega,fun j x hx=> ?_⟩;simp only[oc];have D2:(cs.toList.take (base+c)).length=base+c:=by simp;omega
  by_cases hj:j<c
  ·rw[Ka (by simp;omega),Db,if_pos hj]at hx;obtain⟨v,e1,e2,e3⟩:=hr j x hx;refine⟨v,?_,e2,e3⟩;rw[xd,Ka (by omega),Db,if_pos (by omega)]
   simpa using e1
  ·rw[Na (by simp;omega)]at hx;have WL:min c row.length=c:=by omega
   simp only[ic,WL]at hx;rw[xd,Na (by omega),D2];by_cases hj2:j-c<new.length
   ·rw[Ka hj2]at hx;have Ac:j-c<vs.length:=by omega
    refine⟨vs[j-c],?_,h1 _ (List.getElem_mem Ac),hv (j-c) x _ hx (Ba Ac)⟩;rw[Ka (by omega),show base+j-(base+c)=j-c by omega,Ba Ac]
   ·rw[Na (by omega),Ic,show c+new.length+(j-c-new.length)=j by omega]at hx;obtain⟨v,e1,e2,e3⟩:=hr j x hx;refine⟨v,?_,e2,e3⟩;rw[Na (by omega),Ic,show base+c+vs.length+(base+j-(base+c)-vs.length)=base+j by omega]
    simpa using e1
theorem Ou{g:Gx}{w:World}{cs:Array Value}{base IF lo:Nat}{row:List AV}{vs:List Value}(hr:Ye g w cs IF row)(Pw:base<=lo)(wO:lo+vs.length<=base+row.length)(Faj:IF+row.length<=base\/base+row.length<=IF)(aj:base+row.length<=cs.size):
  Ye g w (cs.toList.take lo++vs++cs.toList.drop (lo+vs.length)).toArray IF row:=by
 intro j x hx;have hj:j<row.length:=by rcases Vb j row.length with h|h;exact h;simp[Ab h]at hx
 obtain⟨v,e1,e2,e3⟩:=hr j x hx;refine⟨v,?_,e2,e3⟩;have D2:(cs.toList.take lo).length=lo:=by simp;omega
 simp only[oc,xd];rcases Faj with h|h
 ·rw[Ka (by omega),Db,if_pos (by omega)];simpa using e1
 ·rw[Na (by omega),D2,Na (by omega),Ic,show lo+vs.length+(IF+j-lo-vs.length)=IF+j by omega]
  simpa using e1
theorem Row.set{g:Gx}{w:World}{R e:Nat}{cs Jh:Array Value}(h:Row g w R e cs)(hs:Jh.size=e):Row g (w.setRow R Jh) R e Jh:=by
 obtain⟨T,fz,hR,ue,Rl,hz⟩:=h;exact⟨T,fz,setRow_heap w R cs Jh T fz hR,hs,Rl,hz⟩
theorem wI{t:TypeId}{p:SV}{x:AV}{pv xv:Value}{s':S}(h:store A s t p x=some s')(hw:dc A.Pa g w s.H)(hf:Td g f w s.H s.F)(hp:Fe g f w p pv)(hx:mb g w x xv)(hWr:∀i c,p= .loc i c->f.W i):
  ∃w',(Instr.storeAt t pv xv).run A.P w= .ok () w'/\dc A.Pa g w' s'.H/\Td g f w' s'.H s'.F/\Bg g f w s.H s.F g f w' s'.H s'.F/\s'.e=s.e:=by
 unfold store at h;simp only[aa]at h;obtain⟨cs,aj,n,hn,h⟩:=h;split at h
 case isFalse=>simp at h
 case isTrue hlen=>
  obtain⟨ue,h1,qn⟩:=qm aj hx;have DR:xv.cells.toList.length=cs.length:=by simpa using ue
  have ee:∀(R o:Nat),(Instr.storeAt t (.pointer (some ⟨R,o,none⟩)) xv).run A.P w=(storeCells ⟨R,o,none⟩ xv.cells.toList).run A.P w:=by
   intro R o;simp[Instr.storeAt,Instr.sureAddr,storeVar,Tc hn,ue,hlen]
  split at h
  ·rename_i i c;simp only[aa]at h;obtain⟨row,hr,Lb,zf,h⟩:=h;simp at h;subst h;obtain⟨hi,rfl⟩:=hp;obtain⟨Jy,iW,Tk⟩:=hf.Vc i row hi hr;obtain⟨T,fz,hR,RK,Rl,hz⟩:=iW;have pJ:c+cs.length<=row.length:=by unfold Bf at zf;split at zf;assumption;simp at zf
   obtain⟨bg,Q4⟩:=Sn zf DR Tk h1 qn (by omega);rw[Re]at Q4;have jc:=jf A.P (f.φ i) c T fz xv.cells.toList 0 Jy w hR (by omega) (fun j hj=>by rw[Je];exact Rl _ (by omega)) h1;simp only[Je]at jc;refine⟨_,(ee _ _).trans jc,?_⟩;have SL:(Jy.toList.take c++xv.cells.toList++Jy.toList.drop (c+xv.cells.toList.length)).toArray.size=Lb.length:=by
    simp only[Mi,qd,ic,qt,Se]at *;omega
   obtain⟨q1,q2,q3⟩:=LQ (i:=i) (row:=Lb) (w':=w.setRow (f.φ i) (Jy.toList.take c++xv.cells.toList++Jy.toList.drop (c+xv.cells.toList.length)).toArray) hw hf hi (hWr i c rfl) (setRow_size _ _ _) (fun R Uc=>setRow_other _ _ _ _ Uc)
    (fun hle=>⟨_,by rw[bg];exact Row.set (show Row g w (f.φ i) row.length Jy from⟨T,fz,hR,RK,Rl,hz⟩) (by rw[SL,bg]),Q4.mono hle⟩)
   exact⟨q1,q2,q3,rfl⟩
  ·rename_i b r c;split at h
   case h_2=>simp at h
   case h_1 rows sz ty hb=>
   split at h
   case isFalse=>simp at h
   case isTrue ag=>
    simp only[aa]at h;obtain⟨row,hr,Lb,zf,h⟩:=h;simp at h;subst h;cases hp with
    |ptr _ _ _ hD=>
    have ae:live g s.H b:=⟨hD,_,hb,rfl⟩;obtain⟨gD,Lf,O4,Gp,Jy,⟨T,fz,hR,RK,Rl,hz⟩,Pc⟩:=hw.Vc b _ hD hb;obtain⟨wG,Tk⟩:=Pc r row hr;have xaf:r<rows.length:=by rcases Vb r rows.length with h|h;exact h;simp[Ab h]at hr
    have hmul:r * sz+sz<=rows.length * sz:=by rw[<- Oi];exact ec _ xaf
    have pJ:c+cs.length<=row.length:=by unfold Bf at zf;split at zf;assumption;simp at zf
    obtain⟨bg,Q4⟩:=Sn zf DR Tk h1 qn (by omega);rw[O4]at *
    have jc:=jf A.P (g.ρ b).R ((g.ρ b).o+r * sz+c) T fz xv.cells.toList 0 Jy w hR (by omega) (fun j hj=>Rl _ (by omega)) h1;simp only[Je]at jc;refine⟨_,(ee _ _).trans jc,?_⟩;obtain⟨q1,q2,q3⟩:=Be (b:=b) (x:= .cells (rows.set r Lb) sz ty) (w':=w.setRow (g.ρ b).R (Jy.toList.take ((g.ρ b).o+r * sz+c)++xv.cells.toList++Jy.toList.drop ((g.ρ b).o+r * sz+c+xv.cells.toList.length)).toArray) hw hf ae ag (setRow_size _ _ _) (fun R Uc=>setRow_other _ _ _ _ Uc)
     (fun hle=>⟨gD.setRow _,Lf,(hw.Vc b _ hD hb).2.2.1,by simpa using Gp,_,Row.set (show Row g w (g.ρ b).R (g.ρ b).e Jy from⟨T,fz,hR,RK,Rl,hz⟩) (by simp only[Mi,qd,ic,qt,Se]at *;omega),fun r' Mk zB=>by
      rw[Ob]at zB;split at zB
      ·rename_i e;subst e;simp[xaf]at zB;subst zB;exact⟨by rw[bg];exact wG,Q4.mono hle⟩
      ·rename_i Uc;obtain⟨lJ,kaa⟩:=Pc r' Mk zB;refine⟨lJ,Ye.mono hle (Ou (base:=(g.ρ b).o+r * sz) kaa (by omega) (by omega) ?_ (by omega))⟩;rcases Lw Uc with h|h
       ·right;have:r * sz+sz<=r' * sz:=by rw[<- Oi];exact ec _ h
        omega
       ·left;have:r' * sz+sz<=r * sz:=by rw[<- Oi];exact ec _ h
        omega⟩)
    exact⟨q1,q2,q3,rfl⟩
  ·simp at h
end
end Go.V
namespace Go.V
open Go
section
variable {A:yh}{g:Gx}{f:Fx}{w:World}{s:S}{a:Act}
theorem BK{c:Value}{x:AV}(h:Ae c=some x):c.oneCell'=true:=by
 unfold Ae at h;split at h<;>simp at h<;>rfl
theorem dh:∀{vs:List Value}{cs:List AV},Rc vs=some cs->vs.length=cs.length/\(∀u∈vs,u.oneCell'=true)/\∀(i:Nat)(y:AV)(u:Value),cs[i]?=some y->vs[i]?=some u->mb g w y u
 |[],cs,h=>by simp[Rc]at h;subst h;exact⟨rfl,by simp,fun i y u h=>by simp at h⟩
 |v::vs,cs,h=>by
  simp only[Rc,aa]at h;obtain⟨x,hx,xs,Lr,h⟩:=h;simp at h;subst h;obtain⟨h1,h2,h3⟩:=dh Lr;refine⟨by simp[h1],fun u hu=> ?_,fun i y u hy hu=> ?_⟩
  ·simp at hu;rcases hu with rfl|hu
   ·exact BK hx
   ·exact h2 u hu
  ·cases i with
   |zero=>simp at hy hu;subst hy;subst hu;exact Om hx
   |succ i=>exact h3 i y u (by simpa using hy) (by simpa using hu)
theorem HA{t:TypeId}{z:List AV}(h:zero A t=some z):∃v,(zeroValue t).run A.P w= .ok v w/\v.cells.size=z.length/\(∀u∈v.cells.toList,u.oneCell'=true)/\
  ∀(i:Nat)(y:AV)(u:Value),z[i]?=some y->v.cells.toList[i]?=some u->mb g w y u:=by
 unfold zero at h;cases hi:A.P.info? t with
 |none=>simp[hi]at h
 |some i=>
  cases hz:i.zero with
  |none=>simp[hi,hz]at h
  |some v=>
   simp[hi,hz]at h;obtain⟨h1,h2,h3⟩:=dh (g:=g) (w:=w) h;exact⟨v,by simp[zeroValue,typeInfo,hi,hz],by simpa using h1,h2,h3⟩
theorem Kk{g:Gx}{w:World}{cs:List AV}{vs:Array Value}(hl:vs.size=cs.length)(h1:∀u∈vs.toList,u.oneCell'=true)
  (hr:∀(i:Nat)(y:AV)(u:Value),cs[i]?=some y->vs.toList[i]?=some u->mb g w y u):Ye g w vs 0 cs:=by
 intro c x hx;have hc:c<cs.length:=by rcases Vb c cs.length with h|h;exact h;simp[Ab h]at hx
 have hv:vs.toList[c]?=some vs[c]:=by simp
 exact⟨vs[c],by rw[Re];simp,h1 _ (Nb hv),hr c x _ hx hv⟩
theorem GF{cs:List AV}{v:Value}{t:TypeId}{Vg:Bool}(hw:dc A.Pa g w s.H)(hf:Td g f w s.H s.F)(hl:v.cells.size=cs.length)(h1:∀u∈v.cells.toList,u.oneCell'=true)
  (hr:∀(i:Nat)(y:AV)(u:Value),cs[i]?=some y->v.cells.toList[i]?=some u->mb g w y u) (Lf:0<cs.length\/Vg=true) {r:Result Next}
  (ee:r= .ok (.value (.pointer (some ⟨w.heap.size,0,none⟩))) (w.alloc (.cells v.cells t))):
  VK A.Pa g f w s (box s t Vg cs).2 (box s t Vg cs).1 r:=by
 have Ac:w.heap.size<(w.alloc (.cells v.cells t)).heap.size:=by show w.heap.size<(w.heap.push _).size;simp
 have Nd:∀R,R<w.heap.size->(w.alloc (.cells v.cells t)).heap[R]?=w.heap[R]?:=fun R hR=>heap_alloc_old w _ R hR
 have hzn:¬g.Z w.heap.size:=fun hz=>Nat.lt_irrefl _ (hw.Eu _ hz)
 cases Vg with
 |true=>
  have hx:g.Le w g (w.alloc (.cells v.cells t))->∃Jh,Row g (w.alloc (.cells v.cells t)) w.heap.size cs.length Jh/\Ye g (w.alloc (.cells v.cells t)) Jh 0 cs:=fun hle=>
   ⟨v.cells,⟨t,(0,0),heap_alloc_new w _,hl,fun off _=>by simp,hzn⟩,(Kk hl h1 hr).mono hle⟩
  obtain⟨q1,q2,q3⟩:=o4 hw hf Ac Nd hx;refine⟨_,_,g,_,.inl ee,q1,q2,q3,?_⟩;exact⟨.inr rfl,by simp[Fx.add]⟩
 |false=>
  have hp:0<cs.length:=Lf.resolve_right (by simp);have hx:g.Le w (g.add s.H.bl.length ⟨w.heap.size,0,cs.length,cs.length⟩) (w.alloc (.cells v.cells t))->
    Cg (g.add s.H.bl.length ⟨w.heap.size,0,cs.length,cs.length⟩) (w.alloc (.cells v.cells t)) ⟨w.heap.size,0,cs.length,cs.length⟩ (.cells [cs] cs.length (some (t,2))):=fun hle=>
   ⟨⟨⟨_,_,heap_alloc_new w _⟩,fun _=>rfl,fun _=>rfl⟩,hp,rfl,by simp,v.cells,⟨t,(0,0),heap_alloc_new w _,hl,fun off _=>by simp,hzn⟩,fun r row sd=>by
    cases r with
    |zero=>simp at sd;subst sd;exact⟨rfl,by simpa using(Kk hl h1 hr).mono hle⟩
    |succ r=>simp at sd⟩
  obtain⟨q1,q2,q3⟩:=Hr (l:=⟨w.heap.size,0,cs.length,cs.length⟩) hw hf (ot Ac) rfl Ac Nd hx;refine⟨_,_,_,f,.inl ee,q1,q2,q3,?_⟩;have:=mb.ptr (g:=g.add s.H.bl.length ⟨w.heap.size,0,cs.length,cs.length⟩) (w:=w.alloc (.cells v.cells t)) s.H.bl.length 0 0 (.inr rfl)
  simpa[Fe,box,og]using this
theorem Pt{n:Nat}{p q:SV}{pv:Value}(h:Ng n p=some q)(hp:Fe g f w p pv):∃ad,pv= .pointer (some ad)/\Fe g f w q (.pointer (some (ad.add n))):=by
 unfold Ng at h;split at h<;>simp at h<;>subst h
 ·obtain⟨hi,rfl⟩:=hp;exact⟨_,rfl,hi,by rw[Ag]⟩
 ·rename_i b r c;cases hp with
  |ptr _ _ _ hb=>
   refine⟨_,rfl,?_⟩;have:=mb.ptr (g:=g) (w:=w) b r (c+n) hb
   simpa[Fe,Ag,Hf]using this
 ·rename_i row;have QL:mb g w (.Ed row) pv:=hp;cases QL with
  |Ed _ ad vs hs hz hc h1 hr=>
   refine⟨ad,rfl,?_⟩;rw[Ak hs,Ag];refine mb.Ed (row.drop n) ⟨ad.block,ad.off+n,none⟩ (fun c=>vs (n+c)) rfl hz (fun c Mn=> ?_) (fun c Mn=> ?_) (fun c x hx=> ?_)
   ·have:=hc (n+c) (by simp at Mn;omega)
    simpa[Hf]using this
   ·exact h1 (n+c) (by simp at Mn;omega)
   ·rw[Ic]at hx;exact hr (n+c) x hx
theorem KB{t:TypeId}{i:Nat}{fd:Field}(h:field? A t i=some fd):∃fs,A.P.underlying t=some (.struct fs)/\fs[i]?=some fd:=by
 unfold field? at h;split at h
 ·rename_i fs hu;exact⟨fs,hu,h⟩
 ·simp at h
theorem Mz{t:TypeId}{i:Nat}{fd:Field}{p q:SV}{pv:Value}(qJ:field? A t i=some fd)(ue:size A fd.type≠some 0)(JV:(size A fd.type).isSome=true)(h:Ng fd.offset p=some q)(hp:Fe g f w p pv):
  ∃v,(Instr.fieldAt t pv i).run A.P w= .ok v w/\Fe g f w q v:=by
 obtain⟨fs,hu,hi⟩:=KB qJ;obtain⟨ad,rfl,hq⟩:=Pt h hp;refine⟨_,?_,hq⟩;cases hn:size A fd.type with
 |none=>simp[hn]at JV
 |some n=>
  have Uc:n≠0:=fun e=>ue (by rw[hn,e])
  simp[Instr.fieldAt,run_underlying hu,hi,Instr.sureAddr,fieldPlace,Tc hn,Uc]
theorem vj{i:Int}{n:Nat}(h:ja i n=true):0<=i/\i<(n:Int):=by simpa[ja]using h
theorem MN(hw:dc A.Pa g w s.H){b n:Nat}(hd:g.D b)(h:some n=Jj s.H b):(g.ρ b).sz=n/\0<n:=by
 unfold Jj at h;split at h
 ·rename_i rows sz ty hb;simp at h;subst h;obtain⟨_,h1,h2,_⟩:=hw.Vc b _ hd hb;exact⟨h2,h1⟩
 ·simp at h
theorem Sg{i n sz c:Nat}(hi:i<n)(hc:c<sz):i * sz+c<n * sz:=by
 have:i * sz+sz<=n * sz:=by rw[<- Oi];exact ec _ hi
 omega
theorem Dz{t:TypeId}{p q:SV}{pv:Value}{k:IntKind}{n:Int}(h:indexAddr A s.H t p n=some q)(hw:dc A.Pa g w s.H)(hp:Fe g f w p pv):
  ∃v,(Instr.indexAt t pv (.int k n)).run A.P w= .ok v w/\Fe g f w q v:=by
 unfold indexAddr at h;split at h
 ·rename_i len e hu;split at h
  case isFalse=>simp at h
  case isTrue hr=>
   obtain⟨h0,h1⟩:=vj hr;simp only[aa]at h;obtain⟨sz,ue,h⟩:=h;obtain⟨ad,rfl,hq⟩:=Pt h hp;refine⟨_,?_,hq⟩;simp[Instr.indexAt,asIntOf,run_underlying hu,Instr.sureAddr,h0,h1,Tc ue]
 ·rename_i e hu;split at h
  ·rename_i b r len;split at h
   case isFalse=>simp at h
   case isTrue hr=>
    simp only[aa]at h;obtain⟨m,hm,h⟩:=h;split at h
    case isFalse=>simp at h
    case isTrue hn=>
    simp at h;subst h;obtain⟨h0,h1⟩:=vj hr;have QL:mb g w (.sl b r len) pv:=hp;cases QL with
    |sl _ _ _ cap hd hle Gp=>
     obtain⟨e1,e2⟩:=MN hw hd hm.symm;refine⟨_,?_,mb.ptr b (r+n.toNat) 0 hd⟩;have:(r+n.toNat) * m=r * m+n.toNat * m:=Me _ _ _;simp[Instr.indexAt,asIntOf,run_underlying hu,h0,h1,Tc hn,Ag,e1,this,Hf]
    |BI=>omega
  ·rename_i sz rows;split at h
   case isFalse=>simp at h
   case isTrue hr=>
    split at h
    case isFalse=>simp at h
    case isTrue ue=>
    obtain⟨h0,h1⟩:=vj hr;simp only[ia]at h;obtain⟨row,sd,rfl⟩:=h;have QL:mb g w (.lit sz rows) pv:=hp;cases QL with
    |lits _ ad=>simp at h1;omega
    |lit _ ad cap _ vs hs hc hz hl Di h1c qn=>
     have hi:n.toNat<rows.length:=by omega
     have wG:=hl _ _ sd;refine⟨.pointer (some (ad.add (n.toNat * sz))),?_,?_⟩
     ·simp[Instr.indexAt,asIntOf,run_underlying hu,h0,h1,Tc ue]
     ·rw[Ak hs,Ag];refine mb.Ed row ⟨ad.block,ad.off+n.toNat * sz,none⟩ (vs n.toNat) rfl (hz (by intro e;subst e;simp at hi)) (fun c Mn=>Di _ c hi (by omega)) (fun c Mn=>h1c _ c hi (by omega)) (fun c x hx=>qn _ row c x sd hx)
  ·simp at h
 ·simp at h
end
end Go.V
namespace Go.V
open Go
theorem UE(off:Nat):∀(l:List Value)(st:Nat)(cells:Array Value),
  ((l.zipIdx st).foldl (fun cs p=>cs.setIfInBounds (off+p.2) p.1) cells).size=cells.size/\
  ∀k,((l.zipIdx st).foldl (fun cs p=>cs.setIfInBounds (off+p.2) p.1) cells)[k]?=if off+st<=k/\k<off+st+l.length/\k<cells.size then l[k-(off+st)]? else cells[k]?
 |[],st,cells=>⟨rfl,fun k=>by rw[if_neg (by simp;omega)];rfl⟩
 |v::l,st,cells=>by
  obtain⟨h1,h2⟩:=UE off l (st+1) (cells.setIfInBounds (off+st) v);simp only[List.zipIdx_cons,Ve];refine⟨by simpa using h1,fun k=> ?_⟩;rw[h2 k];simp only[Array.size_setIfInBounds,Array.getElem?_setIfInBounds,Jb];by_cases hk:off+st=k
  ·subst hk;rw[if_neg (by omega)];by_cases hs:off+st<cells.size
   ·simp[hs]
   ·rw[if_pos rfl];simp[hs,Array.getElem?_eq_none (JC hs)]
  ·rw[if_neg hk];by_cases hr:off+(st+1)<=k/\k<off+(st+1)+l.length/\k<cells.size
   ·rw[if_pos hr,if_pos (by omega),show k-(off+st)=(k-(off+(st+1)))+1 by omega,We]
   ·rw[if_neg hr,if_neg (by omega)]
theorem bz(off:Nat)(vs cells:Array Value)(h:off+vs.size<=cells.size):
  vs.zipIdx.foldl (fun cs(c,j)=>cs.setIfInBounds (off+j) c) cells=(cells.toList.take off++vs.toList++cells.toList.drop (off+vs.size)).toArray:=by
 have e:vs.zipIdx.foldl (fun cs(c,j)=>cs.setIfInBounds (off+j) c) cells=(vs.toList.zipIdx 0).foldl (fun cs p=>cs.setIfInBounds (off+p.2) p.1) cells:=by
  rw[<- Array.foldl_toList,Array.toList_zipIdx]
 rw[e];obtain⟨h1,h2⟩:=UE off vs.toList 0 cells;apply Array.ext_getElem?;intro k;rw[h2 k];simp only[oc,xd,Je,Se];by_cases hk:k<off
 ·rw[if_neg (by omega),Ka (by simp;omega),Db,if_pos hk];simp
 ·have ht:(cells.toList.take off).length=off:=by simp;omega
  rw[Na (by omega),ht];by_cases wU:k<off+vs.size
  ·rw[if_pos (by omega),Ka (by simp;omega)]
  ·rw[if_neg (by omega),Na (by simp;omega),Ic,Se,show off+vs.size+(k-off-vs.size)=k by omega];simp
section
variable {A:yh}{g:Gx}{f:Fx}{w:World}{s:S}{a:Act}
def Kw(g:Gx)(w:World)(cs:List AV)(vs:Array Value):Prop:=vs.size=cs.length/\Ye g w vs 0 cs
theorem Kw.agg{cs:List AV}{vs:Array Value}(h:Kw g w cs vs):mb g w (.agg cs) (.agg vs):=by
 have hv:vs=vs.toList.toArray:=by simp
 rw[hv];refine .agg cs vs.toList (by simpa using h.1) (fun u hu=> ?_) (fun i x v hx hi=> ?_)
 ·obtain⟨i,hi⟩:=me hu;have Ac:i<cs.length:=by have:=h.1;rcases Vb i vs.toList.length with h'|h';simp at h';omega;simp[Ab h']at hi
  obtain⟨v,h1,h2,_⟩:=h.2 i cs[i] (Ba Ac);simp at h1 hi;rw[h1]at hi;simp at hi;subst hi;exact h2
 ·obtain⟨v',h1,_,h3⟩:=h.2 i x hx;simp at h1 hi;rw[h1]at hi;simp at hi;subst hi;exact h3
theorem xh{cs:List AV}{v:Value}(h:mb g w (.agg cs) v):∃vs,v= .agg vs/\Kw g w cs vs:=by
 cases h with
 |agg _ vs hl h1 hr=>exact⟨_,rfl,by simpa using hl,Kk (by simpa using hl) (by simpa using h1) (by simpa using hr)⟩
theorem Uw{t:TypeId}{z:List AV}(h:zero A t=some z):∃v,(zeroValue t).run A.P w= .ok v w/\Kw g w z v.cells:=by
 obtain⟨v,h1,h2,h3,h4⟩:=HA (g:=g) (w:=w) h;exact⟨v,h1,h2,Kk h2 h3 h4⟩
theorem Zi{t:TypeId}{cs:List AV}{vs:Array Value}{off:Nat}{x:AV}(h:part A t cs off=some x)(hr:Kw g w cs vs):∃v,(Go.part t vs off).run A.P w= .ok v w/\mb g w x v:=by
 unfold part at h;cases BG:isAgg A t with
 |none=>simp[BG]at h
 |some b=>
  simp only[BG,ga]at h;cases b with
  |true=>
   simp only[aa]at h;obtain⟨n,hn,h⟩:=h;split at h
   case isFalse=>simp at h
   case isTrue hle=>
    simp at h;subst h;have ue:=hr.1;refine⟨.agg (vs.extract off (off+n)),by simp[Go.part,ur BG,Tc hn],Kw.agg ⟨by simp;omega,fun c x hx=> ?_⟩⟩;rw[Db]at hx;split at hx
    case isFalse=>simp at hx
    case isTrue hc=>
     rw[Ic]at hx;obtain⟨v,e1,e2,e3⟩:=hr.2 _ x hx;refine⟨v,?_,e2,e3⟩;rw[Re]at e1 ⊢;rw[Array.getElem?_extract,if_pos (by omega)];exact e1
  |false=>
   simp only at h;obtain⟨v,e1,e2,e3⟩:=hr.2 off x h;rw[Re]at e1;exact⟨v,by simp[Go.part,ur BG,e1],e3⟩
def By(g:Gx)(w:World):List (Nat×AV)->List (Nat×Value)->Prop
 |[],[]=>True
 |(i,x)::l,(j,v)::m=>i=j/\mb g w x v/\By g w l m
 |_,_=>False
theorem iq:∀{ps:List (Nat×Operand)}{l:List (Nat×AV)},parts A s.e ps=some l->dc A.Pa g w s.H->Ze g f w s.e a.tmps->By g w l (ps.map fun(i,x)=>(i,a.eval x))
 |[],l,h,_,_=>by simp[parts]at h;subst h;trivial
 |(i,x)::ps,l,h,hw,he=>by
  simp only[parts,aa]at h;obtain⟨av,u5,l',bg,h⟩:=h;simp at h;subst h;exact⟨rfl,Ub u5 hw he,iq bg hw he⟩
theorem ru{place:Nat->Option (Nat×Nat)}:∀{l:List (Nat×AV)}{m:List (Nat×Value)}{row Lb:List AV}{cells:Array Value},jg place row l=some Lb->By g w l m->Kw g w row cells->
  ∃Jg,Instr.fill place cells m=some Jg/\Kw g w Lb Jg
 |[],[],row,Lb,cells,h,_,hr=>by simp[jg]at h;subst h;exact⟨cells,rfl,hr⟩
 |(i,x)::l,(j,v)::m,row,Lb,cells,h,hp,hr=>by
  obtain⟨rfl,hx,hp⟩:=hp;simp only[jg,aa]at h;obtain⟨⟨off,n⟩,kD,cs,aj,h⟩:=h;simp only at h;split at h
  case isFalse=>simp at h
  case isTrue hn=>
   simp only[aa]at h;obtain⟨Cf,zf,h⟩:=h;obtain⟨c1,c2,c3⟩:=qm aj hx;have pJ:off+cs.length<=row.length:=by unfold Bf at zf;split at zf;assumption;simp at zf
   have ue:=hr.1;obtain⟨bg,Tk⟩:=Sn (vs:=v.cells.toList) zf (by simpa using c1) hr.2 c2 c3 (by omega);simp only[Re]at Tk;have Ev:=bz off v.cells cells (by omega);obtain⟨Jg,e1,e2⟩:=ru (cells:=v.cells.zipIdx.foldl (fun cs(c,j)=>cs.setIfInBounds (off+j) c) cells) h hp (by
    rw[Ev];refine⟨?_,by simpa using Tk⟩;simp only[Mi,qd,ic,qt,Se];omega)
   refine⟨Jg,?_,e2⟩;simp only[Instr.fill,kD];rw[if_neg (by simp;omega)];exact e1
 |[],_::_,_,_,_,_,hp,_=>hp.elim
 |_::_,[],_,_,_,_,hp,_=>by cases ‹Nat×AV›;exact hp.elim
theorem Ct{α β:Type}(P:Program)(w:World)(fn:α->Sem β)(p:α->Option β):∀l:List α,(∀x∈l,∃y,p x=some y/\(fn x).run P w= .ok y w)->
  ∃ys:List β,(l.mapM fn).run P w= .ok ys w/\∀i:Nat,ys[i]?=l[i]?.bind p
 |[],_=>⟨[],by simp,fun i=>by simp⟩
 |x::l,h=>by
  obtain⟨y,h1,h2⟩:=h x (by simp);obtain⟨ys,h3,h4⟩:=Ct P w fn p l (fun z hz=>h z (by simp[hz]));refine⟨y::ys,by simp[List.mapM_cons,h2,h3],fun i=> ?_⟩;cases i with
  |zero=>simp[h1]
  |succ i=>simpa using h4 i
end
end Go.V
namespace Go.V
open Go
section
variable {A:yh}{g:Gx}{f:Fx}{w:World}{s:S}{a:Act}
theorem FK{t:TypeId}{l:List (Nat×AV)}{m:List (Nat×Value)}{x:AV}(h:build A t l=some x)(hp:By g w l m):
  ∃v,(Instr.build t m.toArray).run A.P w= .ok v w/\mb g w x v:=by
 unfold build at h;simp only[aa]at h;obtain⟨z,hz,h⟩:=h;obtain⟨zv,pU,K4⟩:=Uw (g:=g) (w:=w) hz;split at h
 ·rename_i fs hu;split at h
  case isFalse=>simp at h
  case isTrue Hg=>
   simp only[ia]at h;obtain⟨row,sd,rfl⟩:=h;obtain⟨ps,ee,BB⟩:=Ct A.P w (fun f:Field=>do pure (f.offset,<- sizeOf f.type)) (fun f=>(size A f.type).map fun n=>(f.offset,n)) fs.toList (fun fd qJ=>by
    have:=tc.1 Hg fd qJ;cases hn:size A fd.type with
    |none=>simp[hn]at this
    |some n=>exact⟨(fd.offset,n),by simp,by simp[Tc hn]⟩)
   have oaa:(fun i:Nat=>ps.toArray[i]?)=fun i:Nat=>fs[i]?.bind fun f:Field=>(size A f.type).map fun n=>(f.offset,n):=by
    funext i
    simpa using BB i
   rw[<- oaa]at sd;obtain⟨Jg,e1,e2⟩:=ru sd hp K4;refine⟨.agg Jg,?_,e2.agg⟩;have waf:(fs.mapM (fun f:Field=>do pure (f.offset,<- sizeOf f.type))).run A.P w= .ok ps.toArray w:=by
    rw[Array.mapM_eq_mapM_toList];simp only[Sem.run_map,ee,Result.andThen_ok]
   simp only[Instr.build,Sem.run_bind,pU,Result.andThen_ok,run_underlying hu,waf,List.toList_toArray,e1];rfl
 ·rename_i n e hu;simp only[aa,ia]at h;obtain⟨sz,ue,row,sd,rfl⟩:=h;obtain⟨Jg,e1,e2⟩:=ru sd hp K4;refine⟨.agg Jg,?_,e2.agg⟩;simp only[Instr.build,Sem.run_bind,pU,Result.andThen_ok,run_underlying hu,Tc ue,List.toList_toArray,e1];rfl
 ·simp at h
theorem kj{t e:TypeId}(h:elem? A t=some e):A.P.underlying t=some (.slice e):=by
 unfold elem? at h;split at h
 ·rename_i e' hu;simp at h;subst h;exact hu
 ·simp at h
def Fj(g:Gx)(w:World)(sz:Nat)(rows:List (List AV))(cs:Array Value):Prop:=
 rows.length * sz<=cs.size/\∀(r:Nat)(row:List AV),rows[r]?=some row->row.length=sz/\Ye g w cs (r * sz) row
theorem Iy{ty:Option (TypeId×Nat)}{rows:List (List AV)}{sz:Nat}{cs:Array Value}{t:TypeId}{fz:Nat×Nat}{w':World}{v:AV}{rv:Value}{r:Result Next}(hw:dc A.Pa g w s.H)(hf:Td g f w s.H s.F)(Lf:0<sz)(hr:Fj g w sz rows cs)
  (Sy:w'.heap=w.heap.push (.cells cs t fz)) (Rl:∀ off,off<cs.size->¬(fz.1<=off/\off<fz.2))
  (hv:mb (g.add s.H.bl.length ⟨w.heap.size,0,cs.size,sz⟩) w' v rv) (ee:r= .ok (.value rv) w') (gD:ty=some (t,1)\/ty=none) (Qw:w'.os=w.os/\w'.output=w.output:=by first|exact⟨rfl,rfl⟩|assumption):
  VK A.Pa g f w s { s with H:=push s.H (.cells rows sz ty) } (.v v) r:=by
 have Ac:w.heap.size<w'.heap.size:=by rw[Sy];simp
 have Nd:∀R,R<w.heap.size->w'.heap[R]?=w.heap[R]?:=fun R hR=>by rw[Sy];simp[Array.getElem?_push,Nat.ne_of_lt hR]
 have hzn:¬g.Z w.heap.size:=fun hz=>Nat.lt_irrefl _ (hw.Eu _ hz)
 obtain⟨q1,q2,q3⟩:=Hr (l:=⟨w.heap.size,0,cs.size,sz⟩) (x:= .cells rows sz ty) hw hf (ot Ac) rfl Ac Nd (fun hle=>
  ⟨by
   rcases gD with rfl|rfl
   ·exact⟨⟨cs,fz,by rw[Sy];simp⟩,fun _=>rfl,fun h=>by omega⟩
   ·trivial,Lf,rfl,by simpa using hr.1,cs,⟨t,fz,by rw[Sy];simp,rfl,Rl,hzn⟩,fun r row sd=>⟨(hr.2 r row sd).1,by simpa using(hr.2 r row sd).2.mono hle⟩⟩)
 exact⟨rv,w',_,f,.inl ee,q1,q2,q3,hv⟩
theorem bu{rows:List (List AV)}{sz:Nat}{cs:Array Value}{t:TypeId}{fz:Nat×Nat}{w':World}{v:AV}{rv:Value}{r:Result Next}(hw:dc A.Pa g w s.H)(hf:Td g f w s.H s.F)(Lf:0<sz)(hr:Fj g w sz rows cs)
  (Sy:w'.heap=w.heap.push (.cells cs t fz)) (Rl:∀ off,off<cs.size->¬(fz.1<=off/\off<fz.2))
  (hv:mb (g.add s.H.bl.length ⟨w.heap.size,0,cs.size,sz⟩) w' v rv) (ee:r= .ok (.value rv) w') (Qw:w'.os=w.os/\w'.output=w.output:=by first|exact⟨rfl,rfl⟩|assumption):
  VK A.Pa g f w s { s with H:=push s.H (.cells rows sz (some (t,1))) } (.v v) r:=
 Iy hw hf Lf hr Sy Rl hv ee (.inl rfl)
theorem getElem?_lt'{α:Type}{l:List α}{i:Nat}{x:α}(h:l[i]?=some x):i<l.length:=by
 rcases Vb i l.length with h'|h'
 ·exact h'
 ·simp[Ab h']at h
theorem bE{z:List AV}{zv:Array Value}(n m:Nat)(h:Kw g w z zv)(Lf:0<z.length)(hnm:n<=m):Fj g w z.length (Ca n z) ((Tt (m * z.length)).map (zv[· %zv.size]!)):=by
 have ue:=h.1;refine⟨by simp;exact ec _ hnm,fun r row hr=> ?_⟩;rw[ji]at hr;split at hr
 case isFalse=>simp at hr
 case isTrue hrn=>
  simp at hr;subst hr;refine⟨rfl,fun c x hx=> ?_⟩;obtain⟨v,e1,e2,e3⟩:=h.2 c x hx;rw[Re]at e1;have hc:=getElem?_lt' hx;refine⟨v,?_,e2,e3⟩;have Ac:r * z.length+c<m * z.length:=Sg (by omega) hc;have cak:(r * z.length+c)%zv.size=c:=by rw[ue,Nat.mul_comm,Nat.mul_add_mod,Nat.mod_eq_of_lt hc]
  simp only[Array.getElem?_map,Array.getElem?_range,if_pos Ac,Oc,cak];simp only[Array.getElem!_eq_getD,ni,e1,Option.getD_some]
theorem Nl{x:AV}{n:Int}{v:Value}(h:toInt x=some n)(hx:mb g w x v):∃k,v= .int k n:=by
 unfold toInt at h;split at h
 ·simp at h;subst h;cases hx;exact⟨_,rfl⟩
 ·simp at h
theorem zC{t:TypeId}{n:Nat}(h:bytes A t=some n):∃i,A.P.info? t=some i/\i.bytes=n:=by
 unfold bytes at h
 simpa using h
theorem wrap_small{n:Int}(h0:0<=n)(h1:n<9223372036854775808):IntKind.i64.wrap n=n:=by
 unfold IntKind.wrap;simp[IntKind.bits,IntKind.signed];omega
theorem zp{R0:List (List AV)}{sz:Nat}:∀{l:List (Nat×AV)}{m:List (Nat×Value)}{rows Yd:List (List AV)}{cells:Array Value},Te rows l=some Yd->By g w l m->Fj g w sz rows cells->cells.size=rows.length * sz->
  ∃Jg,Instr.fill (fun i=>some (i * sz,sz)) cells m=some Jg/\Fj g w sz Yd Jg/\Yd.length=rows.length/\Jg.size=cells.size
 |[],[],rows,Yd,cells,h,_,hr,_=>by simp[Te]at h;subst h;exact⟨cells,rfl,hr,rfl,rfl⟩
 |(i,x)::l,(j,v)::m,rows,Yd,cells,h,hp,hr,aj=>by
  obtain⟨rfl,hx,hp⟩:=hp;simp only[Te,aa]at h;obtain⟨cs,Dak,row,sd,h⟩:=h;split at h
  case isFalse=>simp at h
  case isTrue hlen=>
   obtain⟨c1,c2,c3⟩:=qm Dak hx;have hi:=getElem?_lt' sd;obtain⟨wG,Tk⟩:=hr.2 i row sd;have hmul:i * sz+sz<=rows.length * sz:=by rw[<- Oi];exact ec _ hi
   have Ev:=bz (i * sz) v.cells cells (by omega);have ze:Ye g w (cells.toList.take (i * sz)++v.cells.toList++cells.toList.drop (i * sz+v.cells.size)).toArray (i * sz) cs:=by
    have zf:Bf row 0 cs=some cs:=by
     unfold Bf;rw[if_pos (by omega)];simp[List.drop_eq_nil_of_le,hlen]
    have:=(Sn (base:=i * sz) (vs:=v.cells.toList) zf (by simpa using c1) Tk c2 c3 (by omega)).2
    simpa using this
   have ue:(cells.toList.take (i * sz)++v.cells.toList++cells.toList.drop (i * sz+v.cells.size)).toArray.size=cells.size:=by
    simp only[Mi,qd,ic,qt,Se];omega
   obtain⟨Jg,e1,e2,e3,e4⟩:=zp (R0:=R0) (cells:=v.cells.zipIdx.foldl (fun cs(c,j)=>cs.setIfInBounds (i * sz+j) c) cells) (rows:=rows.set i cs) h hp (by
    rw[Ev];refine⟨by rw[ue];simpa using hr.1,fun r Mk zB=> ?_⟩;rw[Ob]at zB;split at zB
    ·rename_i e;subst e;simp[hi]at zB;subst zB;exact⟨by omega,ze⟩
    ·rename_i Uc;obtain⟨lJ,kaa⟩:=hr.2 r Mk zB;refine⟨lJ,?_⟩;have:=Ou (base:=i * sz) (lo:=i * sz) (vs:=v.cells.toList) kaa (va _) (by simp;omega) (by
      rcases Lw Uc with h|h
      ·right;have:i * sz+sz<=r * sz:=by rw[<- Oi];exact ec _ h
       omega
      ·left;have:r * sz+sz<=i * sz:=by rw[<- Oi];exact ec _ h
       omega) (by have:=hr.1;omega)
     simpa using this) (by rw[Ev,ue,aj];simp)
   rw[Ev,ue]at e4;refine⟨Jg,?_,e2,by simpa using e3,e4⟩;simp only[Instr.fill];rw[if_neg (by simp;omega)];exact e1
 |[],_::_,_,_,_,_,hp,_,_=>hp.elim
 |_::_,[],_,_,_,_,hp,_,_=>by cases ‹Nat×AV›;exact hp.elim
end
end Go.V
namespace Go.V
open Go
section
variable {A:yh}{g:Gx}{f:Fx}{w:World}{s:S}{a:Act}
theorem Sl{w:World}{nB Bk:Nat}{e:TypeId}(h:nB<=9223372036854775807):grownCap w nB Bk e<=9223372036854775807:=by
 have:=Nat.mod_lt (w.tape w.drawn (.appendCap nB Bk e)) (show 2^63-nB>0 by omega);show nB+w.tape w.drawn (.appendCap nB Bk e)%(2^63-nB)<=_;omega
theorem Rm{g:Gx}{w:World}{b n cap e sz R:Nat}(hn:n<=cap)(he:cap * sz<=e)(hm:cap<=9223372036854775807):mb (g.add b ⟨R,0,e,sz⟩) w (.sl b 0 n) (.slice (some ⟨R,0,none⟩) n cap):=by
 have:=mb.sl (g:=g.add b ⟨R,0,e,sz⟩) (w:=w) b 0 n cap (.inr rfl) hn (by rw[og];simpa using he) hm
 simpa[og]using this
theorem zy{t:TypeId}{n:Nat}{l:List (Nat×AV)}{m:List (Nat×Value)}{x:AV}{H':AH}{r:Result Next}(h:buildSlice A s.H t n l=some (x,H'))(hw:dc A.Pa g w s.H)(hf:Td g f w s.H s.F)(hp:By g w l m)
  (ee:r=((do pure (.value (<- Instr.buildSlice t n m.toArray))):Sem Next).run A.P w):VK A.Pa g f w s { s with H:=H' } (.v x) r:=by
 unfold buildSlice at h;simp only[aa]at h;obtain⟨e,he,z,hz,h⟩:=h;split at h
 case isFalse=>simp at h
 case isTrue hc=>
  obtain⟨x8,Lf,ue⟩:=hc;have hu:=kj he;split at h
  ·rename_i h00;obtain⟨rfl,mJ⟩:=h00;simp at h;obtain⟨rfl,rfl⟩:=h;have hl:l=[]:=Vs mJ;subst hl;cases m with
   |cons _ _=>exact hp.elim
   |nil=>
   obtain⟨q1,q2,q3⟩:=fo (w':=w.alloc (.cells #[] e)) hw hf (by show w.heap.size<=(w.heap.push _).size;simp) (fun R hR=>heap_alloc_old w _ R hR);refine⟨.slice (some ⟨w.heap.size,0,none⟩) 0 0,w.alloc (.cells #[] e),g,f,.inl ?_,q1,q2,q3,.Ud _⟩;rw[ee];have h0:0 * z.length=0:=Nat.zero_mul _;have S4:∀q:Nat->Value,(Tt 0).map q= #[]:=fun q=>by apply jh;simp
   simp only[Instr.buildSlice,Sem.run_bind,run_underlying hu,Result.andThen_ok,Tc ue,h0,if_neg (show ¬0>2^24 by decide),if_true,Sem.run_pure,List.toList_toArray,Instr.fill,S4,newRow,run_newObj];rfl
  simp only[aa]at h;obtain⟨rows,Pc,h⟩:=h;simp at h;obtain⟨rfl,rfl⟩:=h;obtain⟨zv,pU,K4⟩:=Uw (g:=g) (w:=w) hz;obtain⟨q,hq1,hq2⟩:∃q:Array Value,((n * z.length=0/\q= #[])\/(¬n * z.length=0/\q=zv.cells))/\Fj g w z.length (Ca n z) ((Tt (n * z.length)).map (q[· %q.size]!)):=by
   by_cases hn:n=0
   ·subst hn;exact⟨#[],.inl ⟨by simp,rfl⟩,by simp,fun r row hr=>by simp at hr⟩
   ·have:¬n * z.length=0:=by
     intro h0;rcases Nat.mul_eq_zero.1 h0 with h0|h0<;>omega
    exact⟨zv.cells,.inr ⟨this,rfl⟩,bE n n K4 Lf (va _)⟩
  obtain⟨Jg,e1,e2,e3,e4⟩:=zp (R0:=[]) Pc hp hq2 (by simp);have aj:Jg.size=n * z.length:=by rw[e4];simp
  have hlen:rows.length=n:=by rw[e3];simp
  refine bu (cs:=Jg) (t:=e) (fz:=(0,0)) (w':=w.alloc (.cells Jg e)) hw hf Lf e2 rfl (fun off _=>by simp) (rv:= .slice (some ⟨w.heap.size,0,none⟩) n n) (Rm (va _) (by omega) (by have:=Nat.le_mul_of_pos_right n Lf;omega)) ?_;rw[ee];have HR:¬n * z.length>2^24:=by omega
  rcases hq1 with⟨hn,rfl⟩|⟨hn,rfl⟩
  ·simp only[Instr.buildSlice,Sem.run_bind,run_underlying hu,Result.andThen_ok,Tc ue,if_neg HR,if_pos hn,e1,newRow,run_newObj,Sem.run_pure];rfl
  ·simp only[Instr.buildSlice,Sem.run_bind,run_underlying hu,Result.andThen_ok,Tc ue,if_neg HR,if_neg hn,pU,e1,newRow,run_newObj,Sem.run_pure];rfl
theorem Az{t:TypeId}{x y v:AV}{xv yv:Value}{H':AH}{r:Result Next}(h:makeSlice A s.H t x y=some (v,H'))(hw:dc A.Pa g w s.H)(hf:Td g f w s.H s.F)(hx:mb g w x xv)(hy:mb g w y yv)
  (ee:r=((do pure (.value (<- Instr.makeSlice t xv yv))):Sem Next).run A.P w):VK A.Pa g f w s { s with H:=H' } (.v v) r:=by
 unfold makeSlice at h;split at h
 case h_2=>simp at h
 case h_1 k1 l k2 c=>
 simp only[aa]at h;obtain⟨e,he,z,hz,n,hn,h⟩:=h;split at h
 case isFalse=>simp at h
 case isTrue hc=>
  obtain⟨h0,h1,h2,h3,Lf,ue⟩:=hc;simp at h;obtain⟨rfl,rfl⟩:=h;cases hx;cases hy;have hu:=kj he;obtain⟨i,hi,hib⟩:=zC hn;obtain⟨zv,pU,K4⟩:=Uw (g:=g) (w:=w) hz;have wl:=wrap_small (n:=l) h0 (by omega);have wc:=wrap_small (n:=c) (by omega) h3;obtain⟨q,hq1,hq2⟩:∃q:Array Value,((c.toNat * z.length=0/\q= #[])\/(¬c.toNat * z.length=0/\q=zv.cells))/\Fj g w z.length (Ca l.toNat z) ((Tt (c.toNat * z.length)).map (q[· %q.size]!)):=by
   by_cases hn:c.toNat=0
   ·have:l.toNat=0:=by omega
    rw[hn,this];exact⟨#[],.inl ⟨by simp,rfl⟩,by simp,fun r row hr=>by simp at hr⟩
   ·have:¬c.toNat * z.length=0:=by
     intro h0;rcases Nat.mul_eq_zero.1 h0 with h0|h0<;>omega
    exact⟨zv.cells,.inr ⟨this,rfl⟩,bE l.toNat c.toNat K4 Lf (by omega)⟩
  refine bu (cs:=(Tt (c.toNat * z.length)).map (q[· %q.size]!)) (t:=e) (fz:=(0,0)) (w':=w.alloc (.cells ((Tt (c.toNat * z.length)).map (q[· %q.size]!)) e)) hw hf Lf hq2 rfl (fun off _=>by simp) (rv:= .slice (some ⟨w.heap.size,0,none⟩) l.toNat c.toNat) (Rm (by omega) (by simp) (by omega)) ?_;rw[ee];have t1:(decide (c<0)||decide ((i.bytes:Int) * c>2^48))=false:=by
   rw[hib];simp;omega
  have t2:¬(l<0):=by omega
  have t3:¬(l>c):=by omega
  rcases hq1 with⟨hn,rfl⟩|⟨hn,rfl⟩
  ·simp only[Instr.makeSlice,Sem.run_bind,run_underlying hu,Result.andThen_ok,asInt,asIntOf,Sem.run_pure,typeInfo,run_program,hi,wl,wc,t1,decide_eq_false t2,decide_eq_false t3,Bool.or_false,Od,if_false,run_askRoom,Tc ue,if_pos hn,newRow,run_newObj];rfl
  ·simp only[Instr.makeSlice,Sem.run_bind,run_underlying hu,Result.andThen_ok,asInt,asIntOf,Sem.run_pure,typeInfo,run_program,hi,wl,wc,t1,decide_eq_false t2,decide_eq_false t3,Bool.or_false,Od,if_false,run_askRoom,Tc ue,if_neg hn,pU,newRow,run_newObj];rfl
end
end Go.V
