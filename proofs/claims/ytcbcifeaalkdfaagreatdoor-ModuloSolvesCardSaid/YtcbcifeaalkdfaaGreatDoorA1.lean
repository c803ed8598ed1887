/- An evaluator of the translated code and that it is right: each of its answers is an answer of the model. -/
import GoSem.Step
import Derived.Orders
import Derived.Calls
import Derived.Laws.Sem
import Derived.Laws.CopyRow
import Derived.Laws.Rows
import Derived.Laws.Append
import Derived.Laws.Entries
import Derived.Tactics
import Derived.LaidEql
set_option linter.unusedVariables false
set_option linter.unusedSimpArgs false
set_option linter.unusedSectionVars false
open Array renaming getElem?_eq_none→wF,length_toList→Gf,range→Fu,getD_eq_getD_getElem?→ij,eq_empty_of_size_eq_zero→Oh
open BitVec renaming ofInt→Pj
open Bool renaming false_eq_true→Xb
open Classical renaming byContradiction→kq
open List renaming replicate→fb,getElem?_take→Jb,getElem?_drop→Lc,getElem?_eq_none→Nb,getElem?_eq_getElem→Da,getElem?_of_mem→Ve,length_nil→Om,getElem?_set→Cc,getElem?_append_left→Ja,getElem?_append_right→Oa,getElem?_toArray→qd,append_assoc→Je,length_take→je,getElem_mem→JF,size_toArray→Lv,length_append→oe,mem_of_getElem?→Eb,getElem?_cons_succ→Zi,all_eq_true→ec,getElem?_replicate→Gi,eq_nil_of_length_eq_zero→Xt
open Nat renaming lt_or_ge→dc,le_refl→ya,le_trans→Db,lt_of_lt_of_le→Sa,add_assoc→Zf,add_zero→ug,le_of_lt→js,zero_add→Qf,succ_mul→Lj,mul_le_mul_right→Vc,lt_or_gt_of_ne→By,add_mul→Nf
open Option renaming bind_some→da,map_eq_some_iff→ja,bind_eq_some_iff→aa,map_some→Yd
open Option.some renaming injEq→Wc
namespace Go.V
open Go
inductive AV where
 |Dc
 |bool (b:Bool)
 |int (k:IntKind) (n:Int)
 |str (s:ByteArray)
 |Hf
 |ptr (b r c:Nat)
 |ee (row:List AV)
 |Xa
 |sl (b r n:Nat)
 |Ef
 |lit (sz:Nat) (rows:List (List AV))
 |ig
 |mp (b:Nat)
 |og
 |fn (f:FuncId) (Lh:List AV)
 |yl (b:Nat)
 |zh
 |agg (cells:List AV)
 |Re (vs:List AV)
 deriving Inhabited
inductive AB where
 |dead
 |cells (rows:List (List AV)) (sz:Nat) (ty:Option (TypeId×Nat))
 |map (es:List (AV×AV))
 |loop (n:Nat) (keep:List Nat) (env:List (Nat×AV)) (params:List Nat) (assign body:Code) (st:LoopState) (pending:Option Code)
 deriving Inhabited
structure AH where
 bl:List AB
 wm:Nat
inductive SV where
 |v (a:AV)
 |loc (i c:Nat)
structure S where
 e:List (Nat×SV)
 F:List (List AV)
 H:AH
structure Oi where
 P:Program
 fns:FuncId->Option Func
 loc:FuncId->List Nat
 keep:FuncId->List Nat
 G_:FuncId->Bool
 ext:FuncId->Option (List AV->AH->Option (AV×AH))
 Na:Nat->Option (List AV)
def get:List (Nat×SV)->Nat->SV
 |[],_=> .v .Dc
 |(j,x)::e,i=>if i=j then x else get e i
def AV.dS:AV->Bool
 | .Dc| .agg _| .Re _=>false
 |_=>true
def AV.cells?:AV->Option (List AV)
 | .agg cs=>some cs
 | .Dc| .Re _=>none
 |x=>some [x]
def Ql:Value->Option AV
 | .bool b=>some (.bool b)
 | .int k n=>some (.int k n)
 | .string s=>some (.str s)
 | .pointer none=>some .Hf
 | .slice none 0 0=>some .Xa
 | .map none=>some .ig
 | .nilFunc=>some .og
 | .nilIface=>some .zh
 |_=>none
def Jd:List Value->Option (List AV)
 |[]=>some []
 |v::vs=>(Ql v).bind λx=>(Jd vs).bind λxs=>some (x::xs)
section
variable (A:Oi)
def size(t:TypeId):Option Nat:=(A.P.info? t).map (·.size)
def bytes(t:TypeId):Option Nat:=(A.P.info? t).map (·.bytes)
def isAgg(t:TypeId):Option Bool:=
 match A.P.underlying t with
 |some (.struct _)|some (.array _ _)=>some true
 |some _=>some false
 |none=>none
def zero(t:TypeId):Option (List AV):=
 match(A.P.info? t).map (·.zero)with
 |some (some v)=>Jd v.cells.toList
 |_=>none
def zeroV(t:TypeId):Option AV:=
 match(A.P.info? t).map (·.zero)with
 |some (some (Value.agg cs))=>(Jd cs.toList).map AV.agg
 |some (some v)=>Ql v
 |_=>none
def operand(e:List (Nat×SV)):Operand->Option SV
 | .tmp t=>some (get e t)
 | .const v=>(Ql v).map .v
 | .global g=>(A.Na g).map λrow=> .v (.ee row)
 | .func f=>some (.v (.fn f []))
def val(e:List (Nat×SV))(x:Operand):Option AV:=
 match operand A e x with
 |some (.v a)=>some a
 |_=>none
def Pk(e:List (Nat×SV)):List Operand->Option (List AV)
 |[]=>some []
 |x::xs=>(val A e x).bind λa=>(Pk e xs).bind λl=>some (a::l)
def gg(row:List AV)(c:Nat)(new:List AV):Option (List AV):=
 if c+new.length<=row.length then some (row.take c++(new++row.drop (c+new.length)))else none
def part(t:TypeId)(row:List AV)(c:Nat):Option AV:=
 (isAgg A t).bind λ
  |true=>(size A t).bind λn=>if c+n<=row.length then some (.agg ((row.drop c).take n))else none
  |false=>row[c]?
def rowAt(H:AH)(b r:Nat):Option (List AV):=
 match H.bl[b]? with
 |some (.cells rows _ _)=>rows[r]?
 |_=>none
def Qa(H:AH)(b:Nat)(x:AB):AH:={ H with bl:=H.bl.set b x }
def push(H:AH)(x:AB):AH:={ H with bl:=H.bl++[x] }
def rowsOf(H:AH):AV->Option (List (List AV))
 | .Xa=>some []
 | .Ef=>some []
 | .lit _ rows=>some rows
 | .sl b r n=>
  match H.bl[b]? with
  |some (.cells rows _ _)=>if r+n<=rows.length then some ((rows.drop r).take n)else none
  |_=>none
 |_=>none
def Qk(H:AH)(b:Nat):Option Nat:=
 match H.bl[b]? with
 |some (.cells _ sz _)=>some sz
 |_=>none
def ZH(H:AH)(b:Nat):Option (TypeId×Nat):=
 match H.bl[b]? with
 |some (.cells _ _ ty)=>ty
 |_=>none
def mB(ty:Option (TypeId×Nat))(e:TypeId)(r:Nat):Option (TypeId×Nat):=
 match ty with
 |some (t,k)=>if t=e/\r=0/\1<=k then some (e,1)else none
 |none=>none
def load(s:S)(t:TypeId):SV->Option AV
 | .loc i c=>s.F[i]?.bind λrow=>part A t row c
 | .v (.ptr b r c)=>(rowAt s.H b r).bind λrow=>part A t row c
 | .v (.ee row)=>part A t row 0
 |_=>none
def store(s:S)(t:TypeId)(p:SV)(x:AV):Option S:=
 x.cells?.bind λcs=>(size A t).bind λn=>
  if cs.length=n then
   match p with
   | .loc i c=>s.F[i]?.bind λrow=>(gg row c cs).bind λVb=>some { s with F:=s.F.set i Vb }
   | .v (.ptr b r c)=>
    match s.H.bl[b]? with
    |some (.cells rows sz ty)=>
     if s.H.wm<=b then rows[r]?.bind λrow=>(gg row c cs).bind λVb=>some { s with H:=Qa s.H b (.cells (rows.set r Vb) sz ty) }else none
    |_=>none
   |_=>none
  else none
def rh(n:Nat):SV->Option SV
 | .loc i c=>some (.loc i (c+n))
 | .v (.ptr b r c)=>some (.v (.ptr b r (c+n)))
 | .v (.ee row)=>some (.v (.ee (row.drop n)))
 |_=>none
def field?(t:TypeId)(f:Nat):Option Field:=
 match A.P.underlying t with
 |some (.struct fs)=>fs[f]?
 |_=>none
def ua(i:Int)(n:Nat):Bool:=decide (0<=i)&&decide (i<(n:Int))
def indexAddr(H:AH)(t:TypeId)(x:SV)(i:Int):Option SV:=
 match A.P.underlying t with
 |some (.array n e)=>if ua i n then(size A e).bind λsz=>rh (i.toNat * sz) x else none
 |some (.slice e)=>
  match x with
  | .v (.sl b r n)=>if ua i n then((Qk H b).bind λsz=>if size A e=some sz then some (.v (.ptr b (r+i.toNat) 0))else none)else none
  | .v (.lit sz rows)=>if ua i rows.length then(if size A e=some sz then rows[i.toNat]?.map λrow=> .v (.ee row)else none)else none
  |_=>none
 |_=>none
def index(t:TypeId)(x:AV)(i:Int):Option AV:=
 match A.P.underlying t,x with
 |some (.array n e),.agg cs=>if ua i n then(size A e).bind λsz=>part A e cs (i.toNat * sz)else none
 |some .string,.str s=>if ua i s.size then some (.int .u8 (s[i.toNat]!.toNat:Int))else none
 |_,_=>none
def Lg(place:Nat->Option (Nat×Nat))(row:List AV):List (Nat×AV)->Option (List AV)
 |[]=>some row
 |(i,x)::rest=>
  (place i).bind λ(off,n)=>x.cells?.bind λcs=>
   if cs.length=n then(gg row off cs).bind λVb=>Lg place Vb rest else none
def parts(e:List (Nat×SV)):List (Nat×Operand)->Option (List (Nat×AV))
 |[]=>some []
 |(i,x)::xs=>(val A e x).bind λa=>(parts e xs).bind λl=>some ((i,a)::l)
def build(t:TypeId)(ps:List (Nat×AV)):Option AV:=
 (zero A t).bind λz=>
  match A.P.underlying t with
  |some (.struct fs)=>if fs.toList.all λf=>(size A f.type).isSome then(Lg (λi=>fs[i]?.bind λf=>(size A f.type).map λn=>(f.offset,n)) z ps).map .agg else none
  |some (.array _ e)=>(size A e).bind λn=>(Lg (λi=>some (i * n,n)) z ps).map .agg
  |_=>none
def elem?(t:TypeId):Option TypeId:=
 match A.P.underlying t with
 |some (.slice e)=>some e
 |_=>none
def If(rows:List (List AV)):List (Nat×AV)->Option (List (List AV))
 |[]=>some rows
 |(i,x)::rest=>x.cells?.bind λcs=>rows[i]?.bind λrow=>if cs.length=row.length then If (rows.set i cs) rest else none
def buildSlice(H:AH)(t:TypeId)(len:Nat)(ps:List (Nat×AV)):Option (AV×AH):=
 (elem? A t).bind λe=>(zero A e).bind λz=>
  if len * z.length<=16777216/\0<z.length/\size A e=some z.length then
   if len=0/\ps.length=0 then some (.Ef,H)else(If (fb len z) ps).bind λrows=>some (.sl H.bl.length 0 len,push H (.cells rows z.length (some (e,1))))
  else none
def makeSlice(H:AH)(t:TypeId)(len cap:AV):Option (AV×AH):=
 match len,cap with
 | .int _ l,.int _ c=>
  (elem? A t).bind λe=>(zero A e).bind λz=>(bytes A e).bind λn=>
   if 0<=l/\l<=c/\n * c<=70368744177664/\c<9223372036854775808/\0<z.length/\size A e=some z.length then
    some (.sl H.bl.length 0 l.toNat,push H (.cells (fb l.toNat z) z.length (some (e,1))))
   else none
 |_,_=>none
def Qc(s:ByteArray):List (List AV):=s.data.toList.map λb=>[.int .u8 (b.toNat:Int)]
def append(H:AH)(argTypes:Array TypeId)(x y:AV):Option (AV×AH):=
 argTypes[0]?.bind λt=>(elem? A t).bind λe=>(zero A e).bind λz=>(bytes A e).bind λn=>
  (match argTypes[1]? with
   |some u=>(match A.P.underlying u with|some (.int _)=>none|some _=>some ()|none=>none)
   |none=>some ()).bind λ_=>
  (rowsOf H x).bind λxs=>(match y with| .str s=>some (Qc s)|y=>rowsOf H y).bind λys=>
   if(xs.length+ys.length) * n<=70368744177664/\xs.length+ys.length<9223372036854775808/\0<z.length/\size A e=some z.length/\ys.all (λr=>r.length==z.length)then
    if ys.length=0 then some (x,H)
    else
     match x with
     | .Xa| .Ef=>some (.sl H.bl.length 0 ys.length,push H (.cells ys z.length (some (e,1))))
     | .sl b r _=>
      if H.wm<=b/\Qk H b=some z.length then some (.sl H.bl.length 0 (xs.length+ys.length),push (Qa H b .dead) (.cells (xs++ys) z.length (mB (ZH H b) e r)))else none
     |_=>none
   else none
def PK(lo hi:Option Int)(n:Nat):Option (Nat×Nat):=
 if 0<=lo.getD 0/\lo.getD 0<=hi.getD n/\hi.getD n<=n then some ((lo.getD 0).toNat,(hi.getD n).toNat)else none
def slice(H:AH)(t:TypeId)(x:AV)(lo hi:Option Int):Option AV:=
 match A.P.underlying t,x with
 |some .string,.str s=>(PK lo hi s.size).map λ(l,h)=> .str (s.extract l h)
 |some (.slice e),.Xa=>(size A e).bind λ_=>(PK lo hi 0).map λ_=> .Xa
 |some (.slice e),.Ef=>(size A e).bind λ_=>(PK lo hi 0).map λ_=> .Ef
 |some (.slice e),.lit sz rows=>(PK lo hi rows.length).bind λ(l,h)=>if size A e=some sz then some (.lit sz ((rows.take h).drop l))else none
 |some (.slice e),.sl b r n=>(PK lo hi n).bind λ(l,h)=>(Qk H b).bind λsz=>if size A e=some sz then some (.sl b (r+l) (h-l))else none
 |_,_=>none
def jj(t:TypeId)(x:AV):Option AV:=
 match A.P.underlying t with
 |some (.slice e)=>(size A e).bind λ_=>match x with
  | .Xa=>some .Xa
  | .Ef| .lit _ _| .sl _ _ _=>some .Ef
  |_=>none
 |_=>none
def qZ(x:AV):Bool:=match x with| .int _ n=>decide (n=0)|_=>false
def bits(op:BinOp)(k:IntKind)(x y:Int):Option Int:=
 let a:=Pj k.bits x
 let b:=Pj k.bits y
 match op with
 | .and=>some (k.wrap (a &&& b).toNat)
 | .or=>some (k.wrap (a ||| b).toNat)
 | .xor=>some (k.wrap (a ^^^ b).toNat)
 | .andNot=>some (k.wrap (a &&& ~~~b).toNat)
 |_=>none
def ir(op:BinOp)(k:IntKind)(x y:Int):Option AV:=
 match op with
 | .add=>some (.int k (k.wrap (x+y)))
 | .sub=>some (.int k (k.wrap (x-y)))
 | .mul=>some (.int k (k.wrap (x * y)))
 | .quo=>if y=0 then none else some (.int k (k.wrap (x.tdiv y)))
 | .rem=>if y=0 then none else some (.int k (x.tmod y))
 | .and| .or| .xor| .andNot=>(bits op k x y).map (.int k)
 | .eql=>some (.bool (decide (x=y)))
 | .neq=>some (.bool (!decide (x=y)))
 | .lss=>some (.bool (decide (x<y)))
 | .leq=>some (.bool (decide (x<=y)))
 | .gtr=>some (.bool (decide (y<x)))
 | .geq=>some (.bool (decide (y<=x)))
 |_=>none
def eqFields(eq:TypeId->AV->AV->Option Bool)(xs ys:List AV):List Field->Option Bool
 |[]=>some true
 |fd::fs=>
  if fd.name= "_" then eqFields eq xs ys fs
  else(part A fd.type xs fd.offset).bind λx=>(part A fd.type ys fd.offset).bind λy=>(eq fd.type x y).bind λb=>(eqFields eq xs ys fs).map λc=>b&&c
def qh(eq:AV->AV->Option Bool)(e:TypeId)(sz:Nat)(xs ys:List AV):Nat->Nat->Option Bool
 |0,_=>some true
 |n+1,i=>(part A e xs (i * sz)).bind λx=>(part A e ys (i * sz)).bind λy=>(eq x y).bind λb=>(qh eq e sz xs ys n (i+1)).map λc=>b&&c
def ay:Nat->TypeId->AV->AV->Option Bool
 |0,_,_,_=>none
 |d+1,t,x,y=>
  match A.P.underlying t,x,y with
  |some .bool,.bool a,.bool b=>some (a==b)
  |some (.int _),.int k a,.int k' b=>if k=k' then some (decide (a=b))else none
  |some .string,.str a,.str b=>some (a.toList==b.toList)
  |some (.struct fs),.agg xs,.agg ys=>if A.P.stoodInHeld t then none else eqFields A (ay d) xs ys fs.toList
  |some (.array n e),.agg xs,.agg ys=>(size A e).bind λsz=>qh A (ay d e) e sz xs ys n 0
  |_,_,_=>none
def gq(t:TypeId)(x y:AV):Option Bool:=
 match A.P.underlying t,x,y with
 |some .bool,.bool a,.bool b=>some (a==b)
 |some (.struct _),.agg xs,.agg ys=>if A.P.eqGuardType A.P.depth t then none else ay A 1000 t (.agg xs) (.agg ys)
 |some (.array _ _),.agg xs,.agg ys=>if A.P.eqGuardType A.P.depth t then none else ay A 1000 t (.agg xs) (.agg ys)
 |some (.slice _),.Xa,.Xa=>some true
 |some (.slice _),.Xa,.lit _ _|some (.slice _),.lit _ _,.Xa|some (.slice _),.Xa,.sl .. |some (.slice _),.sl ..,.Xa|some (.slice _),.Xa,.Ef|some (.slice _),.Ef,.Xa=>some false
 |some (.pointer _),.Hf,.Hf=>some true
 |some (.pointer _),.Hf,.ptr .. |some (.pointer _),.ptr ..,.Hf|some (.pointer _),.Hf,.ee _|some (.pointer _),.ee _,.Hf=>some false
 |some (.map _ _),.ig,.ig=>some true
 |some (.map _ _),.ig,.mp _|some (.map _ _),.mp _,.ig=>some false
 |some (.func _ _ _),.og,.og=>some true
 |some (.func _ _ _),.og,.fn .. |some (.func _ _ _),.fn ..,.og=>some false
 |_,_,_=>none
def ku(op:BinOp)(x y:ByteArray):Option AV:=
 match op with
 | .add=>if x.size+y.size<=9223372036854775807 then some (.str (x++y))else none
 | .eql=>some (.bool (x.toList==y.toList))
 | .neq=>some (.bool (!(x.toList==y.toList)))
 | .lss=>some (.bool (Op.bytesLess x.toList y.toList))
 | .leq=>some (.bool (Op.bytesLess x.toList y.toList||x.toList==y.toList))
 | .gtr=>some (.bool !(Op.bytesLess x.toList y.toList||x.toList==y.toList))
 | .geq=>some (.bool !(Op.bytesLess x.toList y.toList))
 |_=>none
def binop(op:BinOp)(t:TypeId)(x y:AV):Option AV:=
 match op,x,y with
 | .shl,.int k a,.int _ b=>if 0<=b then some (.int k (k.wrap (a * 2^min b.toNat k.bits)))else none
 | .shr,.int k a,.int _ b=>if 0<=b then some (.int k (a.fdiv (2^min b.toNat k.bits)))else none
 |op,.int k a,.int k' b=>if k=k' then ir op k a b else none
 |op,.str a,.str b=>ku op a b
 | .eql,x,y=>(gq A t x y).map .bool
 | .neq,x,y=>(gq A t x y).map λb=> .bool !b
 |_,_,_=>none
def unop(op:UnOp)(x:AV):Option AV:=
 match op,x with
 | .neg,.int k n=>some (.int k (k.wrap (0-n)))
 | .xor,.int k n=>(bits .xor k (if k.signed then -1 else k.max) n).map (.int k)
 | .not,.bool b=>some (.bool !b)
 |_,_=>none
def Ti:List (List AV)->Option (List UInt8)
 |[]=>some []
 |[.int .u8 n]::rest=>(Ti rest).bind λl=>some (UInt8.ofNat n.toNat::l)
 |_=>none
def convert(H:AH)(src dst:TypeId)(x:AV):Option (AV×AH):=
 match A.P.underlying src,A.P.underlying dst,x with
 |some _,some (.int k),.int _ n=>some (.int k (k.wrap n),H)
 |some _,some .string,.str s=>some (.str s,H)
 |some .string,some (.slice e),.str s=>
  match A.P.underlying e with
  |some (.int .u8)=>if s.size<=70368744177664 then some (.sl H.bl.length 0 s.size,push H (.cells (Qc s) 1 (some (e,1))))else none
  |_=>none
 |some (.slice e),some .string,x=>
  match A.P.underlying e with
  |some (.int .u8)=>(rowsOf H x).bind λrows=>(Ti rows).map λl=>(.str ⟨l.toArray⟩,H)
  |_=>none
 |_,_,_=>none
def TC:AV->AV->Option Bool
 | .int k x,.int k' y=>if k=k' then some (decide (x=y))else none
 | .str x,.str y=>some (x==y)
 |_,_=>none
def lj(k:AV):List (AV×AV)->Option (Option AV)
 |[]=>some none
 |(k',v)::es=>(TC k k').bind λ
  |true=>some (some v)
  |false=>lj k es
def Dp(k v:AV):List (AV×AV)->Option (List (AV×AV))
 |[]=>some [(k,v)]
 |(k',v')::es=>(TC k k').bind λ
  |true=>some ((k,v)::es)
  |false=>(Dp k v es).map ((k',v'):: ·)
def Gp(k:AV):List (AV×AV)->Option (List (AV×AV))
 |[]=>some []
 |(k',v')::es=>(TC k k').bind λ
  |true=>some es
  |false=>(Gp k es).map ((k',v'):: ·)
def mapOf(H:AH):AV->Option (List (AV×AV))
 | .ig=>some []
 | .mp b=>match H.bl[b]? with|some (.map es)=>some es|_=>none
 |_=>none
def AV.isKey:AV->Bool
 | .int _ _| .str _=>true
 |_=>false
def Mj(t:TypeId)(k:AV):Bool:=
 match A.P.underlying t,k with
 |some (.int _),.int _ _=>true
 |some .string,.str _=>true
 |_,_=>false
def lookup(H:AH)(t:TypeId)(m k:AV)(ok:Bool):Option AV:=
 match A.P.underlying t with
 |some (.map kt et)=>
  if Mj A kt k then
   (mapOf H m).bind λes=>(lj k es).bind λr=>
    (match r with|some v=>some (v,true)|none=>(zeroV A et).map λz=>(z,false)).bind λ(v,b)=>
     some (if ok then .Re [v,.bool b]else v)
  else none
 |_=>none
def mapUpdate(H:AH)(t:TypeId)(m k x:AV):Option AH:=
 match A.P.underlying t,m with
 |some (.map kt _),.mp b=>
  if Mj A kt k&&decide (H.wm<=b)then
   match H.bl[b]? with
   |some (.map es)=>(Dp k x es).map λie=>Qa H b (.map ie)
   |_=>none
  else none
 |_,_=>none
def lg(H:AH)(t:TypeId)(m k:AV):Option AH:=
 match A.P.underlying t,m with
 |some (.map kt _),.ig=>if Mj A kt k then some H else none
 |some (.map kt _),.mp b=>
  if Mj A kt k&&decide (H.wm<=b)then
   match H.bl[b]? with
   |some (.map es)=>(Gp k es).map λie=>Qa H b (.map ie)
   |_=>none
  else none
 |_,_=>none
def toInt:AV->Option Int
 | .int _ n=>some n
 |_=>none
def yh(e:List (Nat×SV)):Option Operand->Option (Option Int)
 |none=>some none
 |some x=>(val A e x).bind λa=>(toInt a).map some
abbrev Callee:=AV->List AV->AH->Option (AV×AH)
def xL:AV->AV->Option AV
 | .int k x,.int _ y=>some (.int k (if y>x then y else x))
 |_,_=>none
def vL:AV->AV->Option AV
 | .int k x,.int _ y=>some (.int k (if y<x then y else x))
 |_,_=>none
def zm(f:AV->AV->Option AV)(x:AV):List AV->Option AV
 |[]=>some x
 |y::ys=>(f x y).bind λz=>zm f z ys
def builtin(H:AH)(b:Builtin)(argTypes:Array TypeId)(args:List AV):Option (AV×AH):=
 match b,args with
 | .append,[x,y]=>append A H argTypes x y
 | .len,[x]=>
  argTypes[0]?.bind λt=>
   match A.P.underlying t,x with
   |some .string,.str s=>some (.int .i64 s.size,H)
   |some (.slice _),.Xa|some (.slice _),.Ef=>some (.int .i64 0,H)
   |some (.slice _),.lit _ rows=>some (.int .i64 rows.length,H)
   |some (.slice _),.sl _ _ n=>some (.int .i64 n,H)
   |some (.map _ _),m=>(mapOf H m).map λes=>(.int .i64 es.length,H)
   |some (.array n _),_=>some (.int .i64 n,H)
   |_,_=>none
 | .max,x::xs=>(zm xL x xs).map λv=>(v,H)
 | .min,x::xs=>(zm vL x xs).map λv=>(v,H)
 | .delete,[m,k]=>argTypes[0]?.bind λt=>(lg A H t m k).map λH'=>(.Re [],H')
 | .copy,[x,y]=>
  argTypes[0]?.bind λt=>(elem? A t).bind λe=>(size A e).bind λz=>
   (rowsOf H y).bind λys=>
    match x with
    | .Xa| .Ef=>some (.int .i64 0,H)
    | .sl b r n=>
     match H.bl[b]? with
     |some (.cells rows sz ty)=>
      if H.wm<=b/\r+n<=rows.length/\sz=z/\ys.all (λq=>q.length==z)then
       let new:=ys.take (min ys.length n)
       some (.int .i64 new.length,Qa H b (.cells (rows.take r++(new++rows.drop (r+new.length))) sz ty))
      else none
     |_=>none
    |_=>none
 |_,_=>none
def box(s:S)(t:TypeId)(Ch:Bool)(cs:List AV):SV×S:=
 if Ch then(.loc s.F.length 0,{ s with F:=s.F++[cs] })else(.v (.ptr s.H.bl.length 0 0),{ s with H:=push s.H (.cells [cs] cs.length (some (t,2))) })
def boxed(s:S)(t:TypeId)(Ch:Bool)(cs:List AV):Option (SV×S):=if Ch||decide (0<cs.length)then some (box s t Ch cs)else none
def kj(s:S)(x:Option AV):Option (SV×S):=x.map λa=>(.v a,s)
def jo(s:S)(x:Option (AV×AH)):Option (SV×S):=x.map λ(a,H)=>(.v a,{ s with H:=H })
def Eh(fz:AH->AV->Option (AV×AH)):AH->List AV->Option (List AV×AH)
 |H,[]=>some ([],H)
 |H,x::xs=>(fz H x).bind λ(x',H')=>(Eh fz H' xs).bind λ(Hq,H'')=>some (x'::Hq,H'')
def Ki(fz:AH->AV->Option (AV×AH)):AH->List (List AV)->Option (List (List AV)×AH)
 |H,[]=>some ([],H)
 |H,x::xs=>(Eh fz H x).bind λ(x',H')=>(Ki fz H' xs).bind λ(Hq,H'')=>some (x'::Hq,H'')
def freeze:Nat->AH->AV->Option (AV×AH)
 |0,_,_=>none
 |d+1,H,.sl b r n=>
  (rowsOf H (.sl b r n)).bind λrows=>(Qk H b).bind λsz=>
   if H.wm<=b then(Ki (freeze d) (Qa H b .dead) rows).bind λ(Ke,H')=>some (.lit sz Ke,H')else none
 |d+1,H,.agg cs=>(Eh (freeze d) H cs).bind λ(Ei,H')=>some (.agg Ei,H')
 |d+1,H,.Re cs=>(Eh (freeze d) H cs).bind λ(Ei,H')=>some (.Re Ei,H')
 |_+1,H,x=>some (x,H)
def RR(Ca:List Nat)(o:Oper):Bool:=(o.dst.map λd=>Ca.contains (2000000+d)).getD false
def op(call:Callee)(Ca:List Nat)(s:S)(o:Oper):Option (SV×S):=
 match o.op with
 | .move x| .assign x=>(operand A s.e x).map λv=>(v,s)
 | .pick c a b=>(val A s.e c).bind λ
  | .bool true=>(operand A s.e a).map λv=>(v,s)
  | .bool false=>(operand A s.e b).map λv=>(v,s)
  |_=>none
 | .alloc t=>(zero A t).bind λz=>boxed s t ((o.dst.map (Ca.contains ·)).getD false) z
 | .box t x=>(val A s.e x).bind λa=>a.cells?.bind λcs=>boxed s t ((o.dst.map (Ca.contains ·)).getD false) cs
 | .build t ps=>(parts A s.e ps.toList).bind λl=>kj s (build A t l)
 | .buildSlice t n ps=>(parts A s.e ps.toList).bind λl=>jo s ((buildSlice A s.H t n l).bind λ(v,H)=>if RR Ca o then freeze 8 H v else some (v,H))
 | .load t x=>(operand A s.e x).bind λp=>kj s (load A s t p)
 | .store t x y=>(operand A s.e x).bind λp=>(val A s.e y).bind λa=>(store A s t p a).map λs'=>(.v .Dc,s')
 | .nilCheck x=>(operand A s.e x).bind λ
  | .loc i c=>some (.loc i c,s)
  | .v (.ptr b r c)=>some (.v (.ptr b r c),s)
  | .v (.ee row)=>some (.v (.ee row),s)
  | .v (.fn f cs)=>some (.v (.fn f cs),s)
  | .v (.yl b)=>some (.v (.yl b),s)
  |_=>none
 | .binOp b t x y _=>(val A s.e x).bind λu=>(val A s.e y).bind λv=>kj s (binop A b t u v)
 | .unOp u _ x=>(val A s.e x).bind λv=>kj s (unop u v)
 | .convert src dst x=>(val A s.e x).bind λv=>jo s (convert A s.H src dst v)
 | .makeFunc (.func f) first Lh=>if first.size=0 then(Pk A s.e Lh.toList).map λl=>(.v (.fn f l),s)else none
 | .makeMap t r=>
  (match r with|none=>some ()|some x=>(match A.P.underlying t with|some (.map _ _)=>(val A s.e x).bind λv=>(toInt v).map λ_=>()|_=>none)).bind λ_=>
   some (.v (.mp s.H.bl.length),{ s with H:=push s.H (.map []) })
 | .makeSlice t l c=>(val A s.e l).bind λu=>(val A s.e c).bind λv=>jo s (makeSlice A s.H t u v)
 | .slice t x lo hi none=>(val A s.e x).bind λv=>(yh A s.e lo).bind λl=>(yh A s.e hi).bind λh=>kj s (slice A s.H t v l h)
 | .slice t x none (some h) (some m)=>(val A s.e x).bind λv=>(val A s.e h).bind λa=>(val A s.e m).bind λb=>if qZ a&&qZ b then kj s (jj A t v)else none
 | .fieldAddr t x f=>(operand A s.e x).bind λp=>(field? A t f).bind λfd=>(size A fd.type).bind λn=>if n=0 then none else(rh fd.offset p).map λv=>(v,s)
 | .field t x f=>(val A s.e x).bind λ
  | .agg cs=>(field? A t f).bind λfd=>kj s (part A fd.type cs fd.offset)
  |_=>none
 | .indexAddr t x i=>(operand A s.e x).bind λp=>(val A s.e i).bind λn=>(toInt n).bind λn=>(indexAddr A s.H t p n).map λv=>(v,s)
 | .index t x i=>(val A s.e x).bind λv=>(val A s.e i).bind λn=>(toInt n).bind λn=>kj s (index A t v n)
 | .lookup t x i ok=>(val A s.e x).bind λm=>(val A s.e i).bind λk=>kj s (lookup A s.H t m k ok)
 | .mapUpdate t m k x| .insert t m k x=>(val A s.e m).bind λm=>(val A s.e k).bind λk=>(val A s.e x).bind λv=>(mapUpdate A s.H t m k v).map λH=>(.v .Dc,{ s with H:=H })
 | .extract x i=>(val A s.e x).bind λ
  | .Re vs=>vs[i]?.map λv=>(.v v,s)
  |_=>none
 | .call c=>
  (Pk A s.e c.args.toList).bind λargs=>
   match c.callee with
   | .value f=>(val A s.e f).bind λg=>jo s (call g args s.H)
   | .builtin b=>jo s (builtin A s.H b c.argTypes args)
   |_=>none
 |_=>none
def put(s:S)(n:Nat)(dst:Option Nat)(v:SV):Option S:=
 match dst with
 |none=>some s
 |some d=>if d<n then some { s with e:=(d,v)::s.e }else none
inductive Yf where
 |no
 |heap (w:Bool)
 |box (i:Nat) (w:Bool)
def Yf.Yc:Yf->Bool
 | .heap _=>true
 |_=>false
def Yf.writes:Yf->Bool
 | .heap w=>w
 | .box _ w=>w
 | .no=>false
def Vf(w:Bool):Option SV->Yf
 |some (.loc i _)=> .box i w
 |some (.v (.ee _))=>if w then .heap w else .no
 |_=> .heap w
def Hs:Option SV->Yf
 |some (.v (.sl _ _ _))=> .heap false
 |_=> .no
def Xh:Option (List AV)->Yf
 |some [.mp _]=> .heap false
 |some _=> .no
 |none=> .heap false
def Ch(Ca:List Nat)(o:Oper):Bool:=(o.dst.map (Ca.contains ·)).getD false
def Ud(Ca:List Nat)(s:S)(o:Oper)(quiet:Bool):Yf:=
 match o.op with
 | .load _ x=>Vf false (operand A s.e x)
 | .indexAddr _ x _=>Hs (operand A s.e x)
 | .store _ x _=>Vf true (operand A s.e x)
 | .alloc _| .box _ _=>if Ch Ca o then .no else .heap false
 | .mapUpdate .. | .insert .. => .heap true
 | .call { callee:= .builtin .copy,.. }| .call { callee:= .builtin .delete,.. }=> .heap true
 | .call { callee:= .builtin .max,.. }| .call { callee:= .builtin .min,.. }=> .no
 | .call { callee:= .builtin .len,args,.. }=>Xh (Pk A s.e args.toList)
 | .call _=> .heap (!quiet)
 | .move _| .assign _| .pick .. | .build .. | .nilCheck _| .binOp .. | .unOp .. | .makeFunc .. | .fieldAddr .. | .field .. | .index .. | .extract .. => .no
 |_=> .heap false
def conflict:Yf->Yf->Bool
 | .heap a,.heap b=>a||b
 | .box i a,.box j b=>i==j&&(a||b)
 |_,_=>false
def force{α:Type}(n:Nat)(k:Nat->α):α:=match n with|0=>k 0|m+1=>k (m+1)
def bitsOf(acc:List Nat):List Edge->Nat
 |[]=>0
 |e::es=>if Region.binds .any e then(2^e.on ||| acc.getD e.on 0) ||| bitsOf acc es else bitsOf acc es
def Tl:List Oper->List Nat->List Nat
 |[],acc=>acc
 |o::os,acc=>force (bitsOf acc o.after.toList) λb=>Tl os (acc++[b])
def ord(b:List Nat)(i j:Nat):Bool:=(b.getD j 0).testBit i
def Bl(o:Oper):Bool:=
 match o.op with
 | .load t (.tmp _)=>(match A.P.underlying t with|some (.map _ _)|some (.func _ _ _)=>true|_=>false)
 | .lookup t _ _ false=>(match A.P.underlying t with|some (.map _ et)=>(match A.P.underlying et with|some (.func _ _ _)=>true|_=>false)|_=>false)
 |_=>false
def Ms(m:Nat):SV->Bool
 | .v (.mp b)=>decide (b<m)
 | .v (.fn _ [])| .v .ig| .v .og=>true
 |_=>false
def wV(b:List Nat)(i:Nat)(l:List Yf):Bool:=l.zipIdx.all λ(t,j)=> !(t.Yc&&t.writes)||ord b j i
def jZ(o:Oper):Bool:=
 match o.op with
 | .call { callee:= .value _,.. }| .call { callee:= .builtin .append,.. }=>true
 |_=>false
def uan(Ca:List Nat)(o:Oper):Bool:= !Bl A o&&
 match o.op with
 | .load _ (.tmp t)| .store _ (.tmp t) _=> !Ca.contains t
 | .alloc _| .box _ _=> !Ch Ca o
 | .call { callee:= .builtin .max,.. }| .call { callee:= .builtin .min,.. }| .call { callee:= .builtin .len,.. }=>false
 | .move _| .assign _| .pick .. | .build .. | .nilCheck _| .binOp .. | .unOp .. | .makeFunc .. | .fieldAddr .. | .field .. | .index .. | .extract .. =>false
 |_=>true
def sO:List Oper->List Nat->List Nat
 |[],l=>l
 |o::os,l=>
  match o.op,o.dst with
  | .fieldAddr _ (.tmp t) _,some d| .indexAddr _ (.tmp t) _,some d=>sO os (if l.contains t then d::l else l)
  |_,_=>sO os l
def quietAt(Ca:List Nat)(os:List Oper)(b:List Nat)(i:Nat)(o:Oper):Bool:=
 jZ o&& !((o.dst.map λd=>Ca.contains (1000000+d)).getD false)&&os.zipIdx.any λ(oj,j)=>uan A (sO os Ca) oj&& !(j==i)&& !ord b i j&& !ord b j i
def eI(os:Array Oper)(b:List Nat):Bool:=
 (os.toList.zipIdx.all λ(o,j)=>o.after.toList.all λe=> !Region.binds .any e||decide (e.on<j))&&
 os.toList.zipIdx.all λ(oj,j)=>os.toList.zipIdx.all λ(oi,i)=> !(decide (i<j))||ord b i j||oi.apart os oj
def cw(b:List Nat)(l:List Yf):Bool:=
 l.zipIdx.all λ(tj,j)=> !tj.writes||l.zipIdx.all λ(ti,i)=>i==j||(decide (i<j)&&ord b i j)||(decide (j<i)&&ord b j i)|| !conflict ti tj
def Bf(os:Array Oper)(s:S)(o:Oper):Option Bool:=
 match o.guard with
 |none=>some true
 |some (j,want)=>
  match(os[j]?).bind (·.dst)with
  |some d=>match get s.e d with
   | .v (.bool b)=>some (b==want)
   | .v (.Re [])=>some false
   |_=>none
  |none=>none
def ops(call:Callee)(Ca:List Nat)(n:Nat)(all:Array Oper):List Oper->S->Option S
 |[],s=>some s
 |o::rest,s=>
  (Bf all s o).bind λ
   |true=>(op A call Ca s o).bind λ(v,s')=>(put s' n o.dst v).bind λDN=>ops call Ca n all rest DN
   |false=>(put s n o.dst (.v (.Re []))).bind λs'=>ops call Ca n all rest s'
def LR(call:Callee)(Ca:List Nat)(t:Yf)(s:S)(o:Oper):Option (SV×S):=
 match t with
 | .heap true=>op A call Ca s o
 |_=>(op A call Ca { s with H:={ s.H with wm:=s.H.bl.length } } o).map λ(v,s')=>(v,{ s' with H:={ s'.H with wm:=s.H.wm } })
def Xf(s:S)(o:Oper):Bool:=
 Bl A o&&match o.op with
  | .load _ x=>(match operand A s.e x with|some (.v (.ptr ..))=>true|_=>false)
  |_=>true
def Gh(call:Callee)(Ca:List Nat)(rs:List (Oper×List (Nat×SV)×SV))(s:S):Prop:=∀r∈rs,∃s',op A call Ca { s with e:=r.2.1 } r.1=some (r.2.2,s')
open Classical in
noncomputable def Dl(call:Callee)(Ca:List Nat)(n:Nat)(all:Array Oper)(b:List Nat):List Oper->Nat->S->List Yf->List (Oper×List (Nat×SV)×SV)->Option (S×List Yf)
 |[],_,s,l,_=>some (s,l)
 |o::rest,i,s,l,rs=>
  (Bf all s o).bind λ
   |true=>
    if Xf A s o then
     (op A call Ca s o).bind λ(v,_)=>if Ms s.H.bl.length v&&wV b i l then(put s n o.dst v).bind λDN=>
      if Gh A call Ca (rs++[(o,s.e,v)]) DN then Dl call Ca n all b rest (i+1) DN (l++[.no]) (rs++[(o,s.e,v)])else none
     else none
    else(LR A call Ca (Ud A Ca s o (quietAt A Ca all.toList b i o)) s o).bind λ(v,s')=>(put s' n o.dst v).bind λDN=>
     if Gh A call Ca rs DN then Dl call Ca n all b rest (i+1) DN (l++[Ud A Ca s o (quietAt A Ca all.toList b i o)]) rs else none
   |false=>(put s n o.dst (.v (.Re []))).bind λs'=>if Gh A call Ca rs s' then Dl call Ca n all b rest (i+1) s' (l++[.no]) rs else none
noncomputable def region(call:Callee)(Ca:List Nat)(n:Nat)(os:Array Oper)(draw:Bool)(s:S):Option S:=
 if draw then
  if eI os (Tl os.toList [])then
   (Dl A call Ca n os (Tl os.toList []) os.toList 0 s [] []).bind λ(s',l)=>if cw (Tl os.toList []) l then some s' else none
  else none
 else ops A call Ca n os os.toList s
inductive Ex where
 |normal
 |exit (id:Nat)
 |ret
 deriving DecidableEq
def qo:Nat:=18446744073709551616
def su(body:S->Option (Ex×S)):Nat->S->Option (Ex×S)
 |0,_=>none
 |n+1,s=>(body s).bind λ
  |(.normal,s')=>su body n s'
  |(ex,s')=>some (ex,s')
def clean(keep:List Nat)(s:S):S:={ s with e:=keep.map λi=>(i,get s.e i) }
def gB(e:List (Nat×SV)):List Nat->Option (List (Nat×AV))
 |[]=>some []
 |i::is=>(match get e i with| .v a=>some a|_=>some .Dc).bind λa=>(gB e is).map λl=>(i,a)::l
def kf:List (Nat×AV)->List (Nat×SV)
 |[]=>[]
 |(i,a)::l=>(i,.v a)::kf l
def Sj:List Nat->List AV->List (Nat×SV)->List (Nat×SV)
 |p::ps,a::as,e=>Sj ps as ((p,.v a)::e)
 |_,_,e=>e
def EI:Option Code->Option Ex
 |none=>some .normal
 |some .ret=>some .ret
 |some (.exit id)=>some (.exit id)
 |_=>none
def Ex.jump:Ex->Option Code
 | .normal=>none
 | .ret=>some .ret
 | .exit id=>some (.exit id)
def Ex.Bh:Ex->Bool
 | .normal=>true
 |_=>false
noncomputable def code(call:Callee)(rf:Bool)(Ca keep:List Nat)(n:Nat):Code->S->Option (Ex×S)
 | .skip,s=>some (.normal,s)
 | .label _,s=>some (.normal,s)
 | .region _ os draw,s=>(region A call Ca n os draw s).map λs'=>(.normal,s')
 | .seq a b,s=>(code call rf Ca keep n a s).bind λ
  |(.normal,s')=>code call rf Ca keep n b s'
  |(ex,s')=>some (ex,s')
 | .cond c x y,s=>(val A s.e c).bind λ
  | .bool b=>if b then code call rf Ca keep n x s else code call rf Ca keep n y s
  |_=>none
 | .block id c,s=>(code call rf Ca keep n c s).bind λ
  |(.exit CF,s')=>if CF=id then some (.normal,s')else some (.exit CF,s')
  |(ex,s')=>some (ex,s')
 | .scope c,s=>code call rf Ca keep n c s
 | .loop c,s=>su (λs=>code call rf Ca keep n c (clean keep s)) qo s
 | .exit id,s=>some (.exit id,s)
 | .ret,s=>some (.ret,s)
 | .rangeFunc g ps assign body,s=>if rf then
   (val A s.e g).bind λfv=>(gB s.e keep).bind λenv=>
    (match fv with| .fn f _=>(match A.fns f with|some fn=>if fn.body.isSome then some ()else none|none=>none)|_=>none).bind λ_=>
    (call fv [.yl s.H.bl.length] (push s.H (.loop n keep env ps.toList assign body .ready none))).bind λ(_,H)=>
     match H.bl[s.H.bl.length]? with
     |some (.loop _ _ _ _ _ _ st xq)=>
      (match st with| .busy=>none|_=>some ()).bind λ_=>
       if H.wm<=s.H.bl.length then(EI xq).map λex=>(ex,{ s with H:=Qa H s.H.bl.length .dead })else none
     |_=>none
  else none
 |_,_=>none
def Uh:List AV->Nat->List (Nat×SV)
 |[],_=>[]
 |a::as,i=>(i,.v a)::Uh as (i+1)
def results(s:S):List ResultVar->Option (List AV)
 |[]=>some []
 | .tmp t::rs=>(match get s.e t with| .v a=>some a|_=>none).bind λa=>(results s rs).bind λl=>some (a::l)
 | .cell p t::rs=>(load A s t (get s.e p)).bind λa=>(results s rs).bind λl=>some (a::l)
def result:List AV->AV
 |[a]=>a
 |l=> .Re l
noncomputable def call:Nat->Callee
 |0,_,_,_=>none
 |k+1,.fn f Lh,args,H=>
  match A.ext f with
  |some g=>g (args++Lh) H
  |none=>
   match A.fns f with
   |none=>none
   |some fn=>
    match fn.body with
    |none=>none
    |some c=>
     if(args++Lh).length<=fn.ntmps then
      (code A (call k) true (A.loc f) (A.keep f) fn.ntmps c ⟨Uh (args++Lh) 0,[],H⟩).bind λ
       |(.exit _,_)=>none
       |(_,s)=>(results A s fn.results.toList).bind λl=>
        if A.G_ f then freeze 8 s.H (result l)else some (result l,s.H)
     else none
 |k+1,.yl b,args,H=>
  match H.bl[b]? with
  |some (.loop n keep env ps assign body .ready _)=>
   if args.length=ps.length/\H.wm<=b/\ps.all (λp=>decide (p<n))then
    (code A (call k) false [] keep n assign ⟨Sj ps args (kf env),[],H⟩).bind λ
     |(.normal,s)=>
      match s.H.bl[b]? with
      |some (.loop n1 oZ SQ ps1 EK z8 .ready PY)=>
       (code A (call k) false [] keep n body { s with H:=Qa s.H b (.loop n1 oZ SQ ps1 EK z8 .busy PY) }).bind λ(ex,s2)=>
        match s2.H.bl[b]? with
        |some (.loop n2 WR pK ps2 lC IU _ _)=>
         some (.bool ex.Bh,Qa s2.H b (.loop n2 WR pK ps2 lC IU (if ex.Bh then .ready else .done) ex.jump))
        |_=>none
      |_=>none
     |_=>none
   else none
  |_=>none
 |_+1,_,_,_=>none
end
end Go.V
namespace Go.V
open Go
structure Loc where
 R:Nat
 o:Nat
 e:Nat
 sz:Nat
structure Rn where
 N:Nat->Prop
 O:Nat->Prop
instance nb0:Inhabited Rn:=⟨⟨λ_=>False,λ_=>True⟩⟩
def nN[Inhabited Rn]:Nat->Prop:=(default:Rn).N
def nO[Inhabited Rn]:Nat->Prop:=(default:Rn).O
def kb(rows:List (List AV)):Prop:=∃(i:Nat)(row:List AV)(b:Bool),rows[i]?=some row/\row[0]?=some (.bool b)
theorem BI{rows:List (List AV)}{n:Nat}(h:kb (rows.take n)):kb rows:=by
 obtain⟨i,row,b,h1,h2⟩:=h;rw[Jb]at h1;split at h1
 ·exact⟨i,row,b,h1,h2⟩
 ·simp at h1
theorem XR{rows:List (List AV)}{n:Nat}(h:kb (rows.drop n)):kb rows:=by
 obtain⟨i,row,b,h1,h2⟩:=h;rw[Lc]at h1;exact⟨n+i,row,b,h1,h2⟩
variable [Inhabited Rn]
structure Gx where
 D:Nat->Prop
 ρ:Nat->Loc
 Z:Nat->Prop
 sub:∀R,nN R->Z R
section
variable (g:Gx)(w:World)
inductive Cb:AV->Value->Prop
 |Dc (v:Value):Cb .Dc v
 |bool (b:Bool):Cb (.bool b) (.bool b)
 |int (k:IntKind) (n:Int):Cb (.int k n) (.int k n)
 |str (s:ByteArray):Cb (.str s) (.string s)
 |Hf:Cb .Hf (.pointer none)
 |ptr (b r c:Nat):g.D b->Cb (.ptr b r c) (.pointer (some ⟨(g.ρ b).R,(g.ρ b).o+r * (g.ρ b).sz+c,none⟩))
 |ee (row:List AV) (a:Addr) (vs:Nat->Value):a.spot=none->g.Z a.block->
  (∀c,c<row.length->w.cell? ⟨a.block,a.off+c,none⟩=some (vs c))->(∀c,c<row.length->(vs c).oneCell'=true)->
  (∀(c:Nat)(x:AV),row[c]?=some x->Cb x (vs c))->Cb (.ee row) (.pointer (some a))
 |Xa:Cb .Xa (.slice none 0 0)
 |Ef (a:Addr):Cb .Ef (.slice (some a) 0 0)
 |sl (b r n cap:Nat):g.D b->n<=cap->(g.ρ b).o+(r+cap) * (g.ρ b).sz<=(g.ρ b).e->cap<=9223372036854775807->
  Cb (.sl b r n) (.slice (some ⟨(g.ρ b).R,(g.ρ b).o+r * (g.ρ b).sz,none⟩) n cap)
 |sR (b r:Nat) (a:Addr):g.D b->Cb (.sl b r 0) (.slice (some a) 0 0)
 |lit (rows:List (List AV)) (a:Addr) (cap sz:Nat) (vs:Nat->Nat->Value):a.spot=none->rows.length<=cap->
  (rows≠[]->g.Z a.block/\(kb rows->¬nN a.block))->(∀(i:Nat)(row:List AV),rows[i]?=some row->row.length=sz)->
  (∀i c,i<rows.length->c<sz->w.cell? ⟨a.block,a.off+i * sz+c,none⟩=some (vs i c))->
  (∀i c,i<rows.length->c<sz->(vs i c).oneCell'=true)->
  (∀(i:Nat)(row:List AV)(c:Nat)(x:AV),rows[i]?=some row->row[c]?=some x->Cb x (vs i c))->Cb (.lit sz rows) (.slice (some a) rows.length cap)
 |lits (sz:Nat) (a:Addr):Cb (.lit sz []) (.slice (some a) 0 0)
 |ig:Cb .ig (.map none)
 |mp (b:Nat):g.D b->Cb (.mp b) (.map (some (g.ρ b).R))
 |og:Cb .og .nilFunc
 |fn (f:FuncId) (Lh:List AV) (vs:List Value):vs.length=Lh.length->
  (∀(i:Nat)(x:AV)(v:Value),Lh[i]?=some x->vs[i]?=some v->Cb x v)->Cb (.fn f Lh) (.func (.func f) #[] vs.toArray)
 |yl (b:Nat):g.D b->Cb (.yl b) (.func (.yield (g.ρ b).R) #[] #[])
 |zh:Cb .zh .nilIface
 |agg (cs:List AV) (vs:List Value):vs.length=cs.length->(∀v∈vs,v.oneCell'=true)->
  (∀(i:Nat)(x:AV)(v:Value),cs[i]?=some x->vs[i]?=some v->Cb x v)->Cb (.agg cs) (.agg vs.toArray)
 |Re (cs:List AV) (vs:List Value):vs.length=cs.length->
  (∀(i:Nat)(x:AV)(v:Value),cs[i]?=some x->vs[i]?=some v->Cb x v)->Cb (.Re cs) (.tuple vs.toArray)
end
structure Gx.Le(g:Gx)(w:World)(g':Gx)(w':World):Prop where
 D:∀b,g.D b->g'.D b/\g'.ρ b=g.ρ b
 Z:∀R,g.Z R->g'.Z R/\w'.heap[R]?=w.heap[R]?
theorem cell_of_heap{w w':World}{a:Addr}(h:w'.heap[a.block]?=w.heap[a.block]?):w'.cell? a=w.cell? a:=by
 simp[World.cell?,h]
theorem Cb.mono{g g':Gx}{w w':World}(h:g.Le w g' w'){x:AV}{v:Value}(hx:Cb g w x v):Cb g' w' x v:=by
 induction hx with
 |Dc v=>exact .Dc v
 |bool b=>exact .bool b
 |int k n=>exact .int k n
 |str s=>exact .str s
 |Hf=>exact .Hf
 |ptr b r c hd=>have:=h.D b hd;rw[<- this.2];exact .ptr b r c this.1
 |ee row a vs hs hz hc h1 _ ih=>
  exact .ee row a vs hs (h.Z _ hz).1 (λc Gn=>(cell_of_heap (a:=⟨a.block,a.off+c,none⟩) (h.Z _ hz).2).trans (hc c Gn)) h1 ih
 |Xa=>exact .Xa
 |Ef a=>exact .Ef a
 |sl b r n cap hd hn he hm=>
  have:=h.D b hd;rw[<- this.2];exact .sl b r n cap this.1 hn (by rw[this.2];exact he) hm
 |sR b r a hd=>exact .sR b r a (h.D b hd).1
 |lit rows a cap sz vs hs hc hz hl hw h1 _ ih=>
  refine .lit rows a cap sz vs hs hc (λtd=>⟨(h.Z _ (hz td).1).1,(hz td).2⟩) hl (λi c hi Gn=> ?_) h1 ih;have td:rows≠[]:=by intro e;subst e;simp at hi
  exact(cell_of_heap (a:=⟨a.block,a.off+i * sz+c,none⟩) (h.Z _ (hz td).1).2).trans (hw i c hi Gn)
 |lits sz a=>exact .lits sz a
 |ig=>exact .ig
 |mp b hd=>have:=h.D b hd;rw[<- this.2];exact .mp b this.1
 |og=>exact .og
 |fn f Lh vs hl _ ih=>exact .fn f Lh vs hl ih
 |yl b hd=>have:=h.D b hd;rw[<- this.2];exact .yl b this.1
 |zh=>exact .zh
 |agg cs vs hl h1 _ ih=>exact .agg cs vs hl h1 ih
 |Re cs vs hl _ ih=>exact .Re cs vs hl ih
def Row(g:Gx)(w:World)(R e:Nat)(cs:Array Value):Prop:=
 ∃T fz,w.heap[R]?=some (.cells cs T fz)/\cs.size=e/\(∀ off,off<e->¬(fz.1<=off/\off<fz.2))/\¬g.Z R
def Lf(g:Gx)(w:World)(cs:Array Value)(at_:Nat)(row:List AV):Prop:=
 ∀c x,row[c]?=some x->∃v,cs[at_+c]?=some v/\v.oneCell'=true/\Cb g w x v
theorem Lf.mono{g g':Gx}{w w':World}(h:g.Le w g' w'){cs:Array Value}{k:Nat}{row:List AV}(hr:Lf g w cs k row):Lf g' w' cs k row:=
 λc x hx=>let⟨v,h1,h2,h3⟩:=hr c x hx;⟨v,h1,h2,h3.mono h⟩
def pG(w:World)(l:Loc):Option (TypeId×Nat)->Prop
 |none=>True
 |some (T,k)=>(∃cs fz,w.heap[l.R]?=some (.cells cs T fz))/\(1<=k->l.o=0)/\(2<=k->l.e=l.sz)
theorem pG.of{w w':World}{l:Loc}{ty:Option (TypeId×Nat)}(h:pG w l ty)(hR:∀cs T fz,w.heap[l.R]?=some (.cells cs T fz)->∃Ei fz',w'.heap[l.R]?=some (.cells Ei T fz')):pG w' l ty:=by
 cases ty with
 |none=>trivial
 |some p=>
  obtain⟨T,k⟩:=p;obtain⟨⟨cs,fz,h1⟩,h2,h3⟩:=h;exact⟨hR cs T fz h1,h2,h3⟩
theorem pG.same{w w':World}{l:Loc}{ty:Option (TypeId×Nat)}(h:pG w l ty)(hR:w'.heap[l.R]?=w.heap[l.R]?):pG w' l ty:=
 h.of λcs T fz h=>⟨cs,fz,by rw[hR];exact h⟩
def Xg(g:Gx)(w:World)(l:Loc):AB->Prop
 | .dead=>True
 | .cells rows sz ty=>pG w l ty/\0<sz/\l.sz=sz/\l.o+rows.length * sz<=l.e/\∃cs,Row g w l.R l.e cs/\
  ∀r row,rows[r]?=some row->row.length=sz/\Lf g w cs (l.o+r * sz) row
 | .map es=>∃Mg clock,w.heap[l.R]?=some (.map Mg clock)/\¬g.Z l.R/\Mg.size=es.length/\
  ∀(i:Nat)(k x:AV)(e:MapEntry),es[i]?=some (k,x)->Mg[i]?=some e->AV.isKey k=true/\Cb g w k e.key/\Cb g w x e.val
 | .loop n _ env ps assign body st xq=>∃r:Loop,w.heap[l.R]?=some (.loop r)/\¬g.Z l.R/\r.state=st/\r.pending=xq/\r.params.toList=ps/\r.assign=assign/\r.body=body/\r.tmps.size=n/\
  ∀(t:Nat)(a:AV),get (kf env) t= .v a->Cb g w a (r.tmps.getD t undef)
def Me:AB->Bool
 | .dead=>false
 |_=>true
def live(g:Gx)(H:AH)(b:Nat):Prop:=g.D b/\∃x,H.bl[b]?=some x/\Me x=true
structure tg(g:Gx)(w:World)(i:Nat)(row:List AV):Prop where
 v:Cb g w (.ee row) (.pointer (some ⟨i,0,none⟩))
 n:∃cs T f,w.heap[i]?=some (.cells cs T f)/\cs.size=row.length
theorem tg.mono{g g':Gx}{w w':World}(h:g.Le w g' w'){i:Nat}{row:List AV}(hx:tg g w i row):tg g' w' i row:=by
 obtain⟨h1,cs,T,f,h2,h3⟩:=hx;refine⟨h1.mono h,cs,T,f,?_,h3⟩;cases h1 with
 |ee _ _ vs hs hz=>rw[(h.Z _ hz).2];exact h2
def q9(w:World)(R:Nat):Prop:=R<w.heap.size/\(¬nO R->∃cs T fz,w.heap[R]?=some (.cells cs T fz)/\∀ off,off<cs.size->¬(fz.1<=off/\off<fz.2))
theorem q9.to{w w':World}{R:Nat}(h:q9 w R)(e:w'.heap[R]?=w.heap[R]?):q9 w' R:=by
 refine⟨?_,λhn=>by rw[e];exact h.2 hn⟩;rcases dc R w'.heap.size with h2|h2
 ·exact h2
 ·rw[wF h2,Array.getElem?_eq_getElem h.1]at e;exact absurd e (by simp)
theorem q9.le{g g':Gx}{w w':World}{R:Nat}(h:q9 w R)(hle:g.Le w g' w')(hz:g.Z R):q9 w' R:=h.to (hle.Z R hz).2
structure Jc(G:Nat->Option (List AV))(g:Gx)(w:World)(H:AH):Prop where
 Na:∀i row,G i=some row->tg g w i row
 Ff:∀b,g.D b->b<H.bl.length
 Kf:∀b x,g.D b->H.bl[b]?=some x->Xg g w (g.ρ b) x
 inj:∀b b',live g H b->live g H b'->b≠b'->(g.ρ b).R≠(g.ρ b').R
 yF:∀R,g.Z R->q9 w R
theorem Jc.O8{G:Nat->Option (List AV)}{g:Gx}{w:World}{H:AH}(h:Jc G g w H){R:Nat}(hz:g.Z R):R<w.heap.size:=(h.yF R hz).1
theorem Za{α:Type}{a:Array α}{i:Nat}{x:α}(h:a[i]?=some x):i<a.size:=by
 rcases dc i a.size with h'|h'
 ·exact h'
 ·simp[wF h']at h
theorem Jc.lt{G:Nat->Option (List AV)}{g:Gx}{w:World}{H:AH}(h:Jc G g w H){b:Nat}(hb:live g H b):(g.ρ b).R<w.heap.size:=by
 obtain⟨hd,x,hx,hl⟩:=hb;have:=h.Kf b x hd hx;cases x with
 |dead=>simp[Me]at hl
 |cells rows sz ty=>obtain⟨_,_,_,_,cs,⟨T,fz,hR,_⟩,_⟩:=this;exact Za hR
 |map es=>obtain⟨Mg,clock,hR,_⟩:=this;exact Za hR
 |loop=>obtain⟨r,hR,_⟩:=this;exact Za hR
theorem Jc.Dn{G:Nat->Option (List AV)}{g:Gx}{w:World}{H:AH}(h:Jc G g w H){b:Nat}(hb:live g H b):¬g.Z (g.ρ b).R:=by
 obtain⟨hd,x,hx,hl⟩:=hb;have:=h.Kf b x hd hx;cases x with
 |dead=>simp[Me]at hl
 |cells rows sz ty=>obtain⟨_,_,_,_,cs,⟨T,fz,hR,_,_,hz⟩,_⟩:=this;exact hz
 |map es=>obtain⟨Mg,clock,hR,hz,_⟩:=this;exact hz
 |loop=>obtain⟨r,hR,hz,_⟩:=this;exact hz
def Fp(g:Gx)(H:AH)(R:Nat):Prop:=∃b,live g H b/\(g.ρ b).R=R
structure Ext(g:Gx)(w:World)(H:AH)(g':Gx)(w':World)(H':AH):Prop where
 D:∀b,g.D b->g'.D b/\g'.ρ b=g.ρ b
 KB:∀b,g'.D b->g.D b\/H.bl.length<=b
 Z:∀R,g.Z R->g'.Z R
 Xr:∀R,g'.Z R->g.Z R\/Fp g H R\/w.heap.size<=R
 fp:∀R,Fp g' H' R->Fp g H R\/w.heap.size<=R
 Al:∀R,R<w.heap.size->¬Fp g H R->w'.heap[R]?=w.heap[R]?
 size:w.heap.size<=w'.heap.size
 len:H.bl.length<=H'.bl.length
 wm:H'.wm=H.wm
 quiet:∀b,b<H.wm->b<H.bl.length->H'.bl[b]?=H.bl[b]?
 still:∀b,b<H.wm->live g H b->w'.heap[(g.ρ b).R]?=w.heap[(g.ρ b).R]?
 io:w'.os=w.os/\w'.output=w.output
theorem Jc.le{G:Nat->Option (List AV)}{g:Gx}{w:World}{H:AH}{g':Gx}{w':World}{H':AH}(hw:Jc G g w H)(h:Ext g w H g' w' H'):g.Le w g' w':=
 ⟨h.D,λR hR=>⟨h.Z R hR,h.Al R (hw.O8 hR) (λ⟨_,hb,e⟩=>hw.Dn hb (e ▸ hR))⟩⟩
theorem Ext.refl(g:Gx)(w:World)(H:AH):Ext g w H g w H:=
 ⟨λ_ h=>⟨h,rfl⟩,λ_ h=> .inl h,λ_ h=>h,λ_ h=> .inl h,λ_ h=> .inl h,λ_ _ _=>rfl,ya _,ya _,rfl,λ_ _ _=>rfl,λ_ _ _=>rfl,⟨rfl,rfl⟩⟩
theorem Ext.trans{g g1 g2:Gx}{w w1 w2:World}{H H1 H2:AH}(h:Ext g w H g1 w1 H1)(h':Ext g1 w1 H1 g2 w2 H2):Ext g w H g2 w2 H2 where
 D b hb:=⟨(h'.D b (h.D b hb).1).1,(h'.D b (h.D b hb).1).2.trans (h.D b hb).2⟩
 KB b hb:=(h'.KB b hb).elim (h.KB b) λhl=> .inr (Db h.len hl)
 Z R hR:=h'.Z R (h.Z R hR)
 Xr R hR:=by
  rcases h'.Xr R hR with h1|h1|h1
  ·exact h.Xr R h1
  ·exact .inr (h.fp R h1)
  ·exact .inr (.inr (Db h.size h1))
 fp R hR:=by
  rcases h'.fp R hR with h1|h1
  ·exact h.fp R h1
  ·exact .inr (Db h.size h1)
 Al R hR hn:=by
  refine(h'.Al R (Sa hR h.size) λhf=> ?_).trans (h.Al R hR hn);rcases h.fp R hf with h1|h1
  ·exact hn h1
  ·omega
 size:=Db h.size h'.size
 len:=Db h.len h'.len
 wm:=h'.wm.trans h.wm
 quiet b hb hl:=(h'.quiet b (h.wm ▸ hb) (Sa hl h.len)).trans (h.quiet b hb hl)
 still b hb hv:=by
  have Mc:b<H.bl.length:=by obtain⟨_,x,hx,_⟩:=hv;rcases dc b H.bl.length with h|h;exact h;simp[Nb h]at hx
  have e:=(h.D b hv.1).2;have XX:live g1 H1 b:=⟨(h.D b hv.1).1,by rw[h.quiet b hb Mc];exact hv.2⟩;have h1:=h'.still b (h.wm ▸ hb) XX;rw[e]at h1;exact h1.trans (h.still b hb hv)
 io:=⟨h'.io.1.trans h.io.1,h'.io.2.trans h.io.2⟩
structure Fx where
 E:Nat->Prop
 φ:Nat->Nat
 W:Nat->Prop
structure ze(g:Gx)(f:Fx)(w:World)(H:AH)(F:List (List AV)):Prop where
 Ff:∀i,f.E i->i<F.length
 Kf:∀i row,f.E i->F[i]?=some row->∃cs,Row g w (f.φ i) row.length cs/\Lf g w cs 0 row
 inj:∀i j,f.E i->f.E j->i≠j->f.φ i≠f.φ j
 apart:∀i,f.E i->¬Fp g H (f.φ i)
theorem ze.lt{g:Gx}{f:Fx}{w:World}{H:AH}{F:List (List AV)}(h:ze g f w H F){i:Nat}(hi:f.E i):f.φ i<w.heap.size:=by
 have hl:=h.Ff i hi;obtain⟨cs,⟨T,fz,hR,_⟩,_⟩:=h.Kf i F[i] hi (by simp[hl]);exact Za hR
theorem ze.Dn{g:Gx}{f:Fx}{w:World}{H:AH}{F:List (List AV)}(h:ze g f w H F){i:Nat}(hi:f.E i):¬g.Z (f.φ i):=by
 have hl:=h.Ff i hi;obtain⟨cs,⟨T,fz,hR,_,_,hz⟩,_⟩:=h.Kf i F[i] hi (by simp[hl]);exact hz
def qf(g:Gx)(f:Fx)(w:World):SV->Value->Prop
 | .v a,v=>Cb g w a v
 | .loc i c,v=>f.E i/\v= .pointer (some ⟨f.φ i,c,none⟩)
structure Wg(g:Gx)(f:Fx)(w:World)(H:AH)(F:List (List AV))(g':Gx)(f':Fx)(w':World)(H':AH)(F':List (List AV)):Prop where
 D:∀b,g.D b->g'.D b/\g'.ρ b=g.ρ b
 KB:∀b,g'.D b->g.D b\/H.bl.length<=b
 Z:∀R,g.Z R->g'.Z R
 Xr:∀R,g'.Z R->g.Z R\/Fp g H R\/w.heap.size<=R
 fp:∀R,Fp g' H' R->Fp g H R\/w.heap.size<=R
 E:∀i,f.E i->f'.E i/\f'.φ i=f.φ i
 Zab:∀i,f'.E i->f.E i\/F.length<=i
 UK:∀i,f'.E i->¬f.E i->w.heap.size<=f'.φ i
 Al:∀R,R<w.heap.size->¬Fp g H R->(∀i,f.E i->f.φ i≠R)->w'.heap[R]?=w.heap[R]?
 size:w.heap.size<=w'.heap.size
 len:H.bl.length<=H'.bl.length
 Uj:F.length<=F'.length
 wm:H'.wm=H.wm
 quiet:∀b,b<H.wm->b<H.bl.length->H'.bl[b]?=H.bl[b]?
 still:∀b,b<H.wm->live g H b->w'.heap[(g.ρ b).R]?=w.heap[(g.ρ b).R]?
 W:∀i,f.E i->(f'.W i↔f.W i)
 Qab:∀i,f'.E i->¬f.E i->f'.W i
 own:∀i,f.E i->¬f.W i->w'.heap[f.φ i]?=w.heap[f.φ i]?
 io:w'.os=w.os/\w'.output=w.output
theorem Wg.le{G:Nat->Option (List AV)}{g g':Gx}{f f':Fx}{w w':World}{H H':AH}{F F':List (List AV)}(hw:Jc G g w H)(hf:ze g f w H F)(h:Wg g f w H F g' f' w' H' F'):g.Le w g' w':=
 ⟨h.D,λR hR=>⟨h.Z R hR,h.Al R (hw.O8 hR) (λ⟨_,hb,e⟩=>hw.Dn hb (e ▸ hR)) (λ_ hi e=>hf.Dn hi (e ▸ hR))⟩⟩
theorem Wg.refl(g:Gx)(f:Fx)(w:World)(H:AH)(F:List (List AV)):Wg g f w H F g f w H F:=
 ⟨λ_ h=>⟨h,rfl⟩,λ_ h=> .inl h,λ_ h=>h,λ_ h=> .inl h,λ_ h=> .inl h,λ_ h=>⟨h,rfl⟩,λ_ h=> .inl h,λ_ h h'=>absurd h h',λ_ _ _ _=>rfl,ya _,ya _,ya _,rfl,λ_ _ _=>rfl,λ_ _ _=>rfl,λ_ _=>Iff.rfl,λ_ h h'=>absurd h h',λ_ _ _=>rfl,⟨rfl,rfl⟩⟩
theorem Wg.trans{g g1 g2:Gx}{f f1 f2:Fx}{w w1 w2:World}{H H1 H2:AH}{F F1 F2:List (List AV)}
  (h:Wg g f w H F g1 f1 w1 H1 F1) (h':Wg g1 f1 w1 H1 F1 g2 f2 w2 H2 F2):Wg g f w H F g2 f2 w2 H2 F2 where
 D b hb:=⟨(h'.D b (h.D b hb).1).1,(h'.D b (h.D b hb).1).2.trans (h.D b hb).2⟩
 KB b hb:=(h'.KB b hb).elim (h.KB b) λhl=> .inr (Db h.len hl)
 Z R hR:=h'.Z R (h.Z R hR)
 Xr R hR:=by
  rcases h'.Xr R hR with h1|h1|h1
  ·exact h.Xr R h1
  ·exact .inr (h.fp R h1)
  ·exact .inr (.inr (Db h.size h1))
 fp R hR:=by
  rcases h'.fp R hR with h1|h1
  ·exact h.fp R h1
  ·exact .inr (Db h.size h1)
 E i hi:=⟨(h'.E i (h.E i hi).1).1,(h'.E i (h.E i hi).1).2.trans (h.E i hi).2⟩
 Zab i hi:=(h'.Zab i hi).elim (h.Zab i) λhl=> .inr (Db h.Uj hl)
 UK i hi hn:=by
  by_cases h1:f1.E i
  ·rw[(h'.E i h1).2];exact h.UK i h1 hn
  ·exact Db h.size (h'.UK i hi h1)
 Al R hR hn hi:=by
  refine(h'.Al R (Sa hR h.size) (λhf=> ?_) (λi h1 e=> ?_)).trans (h.Al R hR hn hi)
  ·rcases h.fp R hf with h1|h1
   ·exact hn h1
   ·omega
  ·by_cases h2:f.E i
   ·exact hi i h2 ((h.E i h2).2 ▸ e)
   ·have:=h.UK i h1 h2;omega
 size:=Db h.size h'.size
 len:=Db h.len h'.len
 Uj:=Db h.Uj h'.Uj
 wm:=h'.wm.trans h.wm
 quiet b hb hl:=(h'.quiet b (h.wm ▸ hb) (Sa hl h.len)).trans (h.quiet b hb hl)
 still b hb hv:=by
  have Mc:b<H.bl.length:=by obtain⟨_,x,hx,_⟩:=hv;rcases dc b H.bl.length with h|h;exact h;simp[Nb h]at hx
  have e:=(h.D b hv.1).2;have XX:live g1 H1 b:=⟨(h.D b hv.1).1,by rw[h.quiet b hb Mc];exact hv.2⟩;have h1:=h'.still b (h.wm ▸ hb) XX;rw[e]at h1;exact h1.trans (h.still b hb hv)
 W i hi:=(h'.W i (h.E i hi).1).trans (h.W i hi)
 Qab i hi hn:=by
  by_cases h1:f1.E i
  ·exact(h'.W i h1).2 (h.Qab i h1 hn)
  ·exact h'.Qab i hi h1
 own i hi hn:=by
  have e:=(h.E i hi).2;have h1:=h'.own i (h.E i hi).1 (λhw=>hn ((h.W i hi).1 hw));rw[e]at h1;exact h1.trans (h.own i hi hn)
 io:=⟨h'.io.1.trans h.io.1,h'.io.2.trans h.io.2⟩
theorem qf.mono{g g':Gx}{f f':Fx}{w w':World}(h:g.Le w g' w')(hE:∀i,f.E i->f'.E i/\f'.φ i=f.φ i){x:SV}{v:Value}(hx:qf g f w x v):qf g' f' w' x v:=by
 cases x with
 |v a=>exact Cb.mono h hx
 |loc i c=>obtain⟨h1,h2⟩:=hx;exact⟨(hE i h1).1,by rw[(hE i h1).2];exact h2⟩
def Mf(g:Gx)(f:Fx)(w:World)(e:List (Nat×SV))(tmps:Array Value):Prop:=
 ∀t,qf g f w (get e t) (tmps.getD t undef)
def Marks(g:Gx)(w:World):List Deferred->Prop
 |[]=>True
 |d::ds=>(∃r,d.target= .collected r/\w.heap[r]?=some (.deferred (some []))/\¬g.Z r/\∀d'∈ds,d'.target≠ .collected r)/\Marks g w ds
def rG(w:World)(ds ds':List Deferred):Prop:=∀d∈ds',d∈ds\/∃r,d.target= .collected r/\w.heap.size<=r
theorem rG.refl(w:World)(ds:List Deferred):rG w ds ds:=λ_ h=> .inl h
theorem rG.trans{w w1:World}{d d1 d2:List Deferred}(hs:w.heap.size<=w1.heap.size)(h:rG w d d1)(h':rG w1 d1 d2):rG w d d2:=λx hx=>by
 rcases h' x hx with h1|⟨r,h1,h2⟩
 ·exact h x h1
 ·exact .inr ⟨r,h1,by omega⟩
theorem Jc.Rs{G:Nat->Option (List AV)}{g:Gx}{w:World}{H:AH}(h:Jc G g w H){r:Nat}{x:Option (List Deferred)}(hr:w.heap[r]?=some (.deferred x)):¬Fp g H r:=by
 rintro⟨b,⟨hd,y,hy,hl⟩,rfl⟩
 have:=h.Kf b y hd hy;cases y with
 |dead=>simp[Me]at hl
 |cells rows sz ty=>obtain⟨_,_,_,_,cs,⟨T,fz,hR,_⟩,_⟩:=this;rw[hr]at hR;simp at hR
 |map es=>obtain⟨Mg,clock,hR,_⟩:=this;rw[hr]at hR;simp at hR
 |loop=>obtain⟨q,hR,_⟩:=this;rw[hr]at hR;simp at hR
theorem ze.Rs{g:Gx}{f:Fx}{w:World}{H:AH}{F:List (List AV)}(h:ze g f w H F){r:Nat}{x:Option (List Deferred)}(hr:w.heap[r]?=some (.deferred x)){i:Nat}(hi:f.E i):f.φ i≠r:=by
 rintro rfl
 have hl:=h.Ff i hi;obtain⟨cs,⟨T,fz,hR,_⟩,_⟩:=h.Kf i F[i] hi (by simp[hl]);rw[hr]at hR;simp at hR
theorem Marks.step{G:Nat->Option (List AV)}{g g':Gx}{f f':Fx}{w w':World}{H H':AH}{F F':List (List AV)}(hw:Jc G g w H)(hf:ze g f w H F)(h:Wg g f w H F g' f' w' H' F'):∀{ds:List Deferred},Marks g w ds->Marks g' w' ds
 |[],_=>trivial
 |d::ds,⟨⟨r,h1,h2,h3,h4⟩,hm⟩=>⟨⟨r,h1,by
  rw[h.Al r (Za h2) (hw.Rs h2) (λi hi=>hf.Rs h2 hi)];exact h2,λhz=>by
  rcases h.Xr r hz with hz|hz|hz
  ·exact h3 hz
  ·exact hw.Rs h2 hz
  ·have:=Za h2;omega,h4⟩,Marks.step hw hf h hm⟩
structure St(G:Nat->Option (List AV))(g:Gx)(f:Fx)(s:S)(n:Nat)(a:Act)(w:World):Prop where
 hw:Jc G g w s.H
 hf:ze g f w s.H s.F
 he:Mf g f w s.e a.tmps
 hn:a.tmps.size=n
 hm:Marks g w a.defers
 hW:∀i,f.E i->f.W i
theorem Wg.tak{g g':Gx}{f f':Fx}{w w':World}{H H':AH}{F F':List (List AV)}(h:Wg g f w H F g' f' w' H' F')(hW:∀i,f.E i->f.W i):∀i,f'.E i->f'.W i:=λi hi=>by
 by_cases h1:f.E i
 ·exact(h.W i h1).2 (hW i h1)
 ·exact h.Qab i hi h1
end Go.V
namespace Go.V
open Go
variable [Inhabited Rn]
theorem pick{α β:Type}(Q:Nat->α->β->Prop):∀l:List α,(∀(j:Nat)(x:α),l[j]?=some x->∃v,Q j x v)->
  ∃vs:List β,vs.length=l.length/\∀(j:Nat)(x:α)(v:β),l[j]?=some x->vs[j]?=some v->Q j x v:=by
 intro l;induction l generalizing Q with
 |nil=>intro _;exact⟨[],rfl,λj x v h=>by simp at h⟩
 |cons a l ih=>
  intro h;obtain⟨v0,h0⟩:=h 0 a rfl;obtain⟨vs,hl,hv⟩:=ih (λj=>Q (j+1)) (λj x hx=>h (j+1) x (by simpa using hx));refine⟨v0::vs,by simp[hl],λj x v hx ot=> ?_⟩;cases j with
  |zero=>simp at hx ot;subst hx;subst ot;exact h0
  |succ j=>exact hv j x v (by simpa using hx) (by simpa using ot)
theorem Vg(R o n:Nat):(⟨R,o,none⟩:Addr).add n=⟨R,o+n,none⟩:=by
 unfold Addr.add;split<;>simp_all
theorem Zl{a:Addr}(h:a.spot=none):a=⟨a.block,a.off,none⟩:=by cases a;simp_all
def zn(g:Gx)(w:World)(R base:Nat)(row:List AV):Prop:=
 ∀(j:Nat)(x:AV),row[j]?=some x->∃v,w.cell? ⟨R,base+j,none⟩=some v/\v.oneCell'=true/\Cb g w x v
theorem zn.oO{g:Gx}{w:World}{R at_:Nat}{cs:Array Value}{row:List AV}{T:TypeId}{fz:Nat×Nat}(hR:w.heap[R]?=some (.cells cs T fz))(h:Lf g w cs at_ row):zn g w R at_ row:=by
 intro j x hx;obtain⟨v,h1,h2,h3⟩:=h j x hx;exact⟨v,by rw[cell_of_row w R _ cs T fz hR];exact h1,h2,h3⟩
section
variable {A:Oi}{g:Gx}{w:World}
theorem Ks{t:TypeId}{b:Bool}(h:isAgg A t=some b):(Go.isAgg t).run A.P w= .ok b w:=by
 unfold isAgg at h;unfold Go.isAgg;split at h
 ·simp at h;subst h;rename_i fs hu;simp[run_underlying hu]
 ·simp at h;subst h;rename_i n e hu;simp[run_underlying hu]
 ·rename_i d n_ hn2 hu;simp at h;subst h;simp only[Sem.run_bind,run_underlying hu,Result.andThen_ok,Sem.run_pure]
 ·simp at h
theorem Ld{t:TypeId}{n:Nat}(h:size A t=some n):(sizeOf t).run A.P w= .ok n w:=by
 unfold size at h;cases hi:A.P.info? t with
 |none=>simp[hi]at h
 |some i=>simp[hi]at h;simp[sizeOf,typeInfo,hi,h]
theorem Oq{t : TypeId}{row : List AV}{c R base : Nat}{x : AV}(hp : part A t row c = some x)(hc : zn g w R base row) :
  ∃v, (loadVar t ⟨R, base + c, none⟩).run A.P w = .ok v w ∧ Cb g w x v := by
 unfold part at hp
 cases MI : isAgg A t with
 | none => simp[MI]at hp
 | some b =>
  simp only[MI, da]at hp
  cases b with
  | true =>
   simp only at hp
   cases hn : size A t with
   | none => simp[hn]at hp
   | some n =>
    simp only[hn, da]at hp
    split at hp
    case isFalse => simp at hp
    case isTrue hle =>
     simp only[Wc]at hp
     subst hp
     obtain⟨vs, hl, hv⟩ := pick (λj x v => w.cell? ⟨R, base + c + j, none⟩ = some v ∧ v.oneCell' = true ∧ Cb g w x v) ((row.drop c).take n)
       (λj x hx => by
        rw[Jb]at hx
        split at hx
        · rw[Lc]at hx
          have := hc (c + j) x hx
          rwa [← Zf]at this
        · simp at hx)
     have hlen : ((row.drop c).take n).length = n := by simp; omega
     have De : ∀(j : Nat)(v : Value), vs[j]? = some v → ∃x, ((row.drop c).take n)[j]? = some x := λj v hjv => by
       have : j < vs.length := by rcases dc j vs.length with h | h; exact h; simp[Nb h]at hjv
       exact⟨_, Da (hl ▸ this)⟩
     have hlc := run_loadCells_list (P := A.P) w ⟨R, base + c, none⟩ vs (λj v hjv => by
       rw[Vg]; obtain⟨x, hx⟩ := De j v hjv; exact(hv j x v hx hjv).1)
     refine⟨.agg vs.toArray, ?_, .agg _ vs (by rw[hl]) (λv ot => ?_) (λi x v hx hi => (hv i x v hx hi).2.2)⟩
     · simp only[loadVar, Sem.run_bind, Ks MI, Result.andThen_ok, if_true, Ld hn]
       rw[show n = vs.length by rw[hl, hlen], hlc]; rfl
     · obtain⟨i, hi⟩ := Ve ot
       obtain⟨x, hx⟩ := De i v hi
       exact(hv i x v hx hi).2.1
  | false =>
   simp only at hp
   obtain⟨v, h1, h2, h3⟩ := hc c x hp
   refine⟨v, ?_, h3⟩
   simp[loadVar, Ks MI, h1]
theorem Sf(P : Program)(R o : Nat)(T : TypeId)(fz : Nat × Nat) : ∀(vs : List Value)(i : Nat)(cur : Array Value)(w : World), w.heap[R]? = some (.cells cur T fz) → o + i + vs.length ≤ cur.size →
  (∀j, j < vs.length → ¬(fz.1 ≤ o + i + j ∧ o + i + j < fz.2)) → (∀v ∈ vs, v.oneCell' = true) →
  (storeCells ⟨R, o, none⟩ vs i).run P w = .ok () (w.setRow R (cur.toList.take (o + i) ++ vs ++ cur.toList.drop (o + i + vs.length)).toArray)
 | [], i, cur, w, hg, _, _, _ => by
  simp only[storeCells, List.append_nil, Om, ug, List.take_append_drop, Array.toArray_toList]
  rw[setRow_self w R cur T fz hg]
  rfl
 | v :: rest, i, cur, w, hg, hl, hf, h1 => by
  have hi : o + i < cur.size := by simp at hl; omega
  have ei : w.cell? ⟨R, o + i, none⟩ = some cur[o + i] := by simp[World.cell?, hg, hi]
  have Oar : w.frozen? ⟨R, o + i, none⟩ = false := by
   have := hf 0 (by simp)
   simp only[World.frozen?, hg, ug]at this ⊢
   simpa using this
  have Ec : (Go.store ((⟨R, o, none⟩ : Addr).add i) v).run P w = .ok () (w.setRow R (cur.setIfInBounds (o + i) v)) := by
   rw[Vg, run_store P w _ v _ (h1 v (by simp)), ei]
   simp[Oar, setCell_eq_setRow w R (o + i) cur T fz v hg]
  have ih := Sf P R o T fz rest (i + 1) (cur.setIfInBounds (o + i) v) (w.setRow R (cur.setIfInBounds (o + i) v)) (setRow_heap w R cur _ T _ hg) (by simp at hl ⊢; omega)
   (λj hj => by have := hf (j + 1) (by simp; omega); rwa [show o + i + (j + 1) = o + (i + 1) + j by omega]at this) (λx hx => h1 x (by simp[hx]))
  simp only[storeCells, Sem.run_bind, Ec, Result.andThen_ok, ih, setRow_setRow]
  congr 3
  have e := list_seg_step cur.toList (o + i) v rest (by simp at hl ⊢; omega)
  simpa[Array.toList_setIfInBounds, Zf]using e
theorem setRow_size(w:World)(R:Nat)(cs:Array Value):(w.setRow R cs).heap.size=w.heap.size:=by simp[World.setRow]
end
end Go.V
namespace Go.V
open Go
variable [Inhabited Rn]
section
variable {G:Nat->Option (List AV)}{g:Gx}{f:Fx}{w:World}{H:AH}{F:List (List AV)}
theorem Gx.Le.heap{w':World}(h:w'.heap=w.heap):g.Le w g w':=⟨λ_ hb=>⟨hb,rfl⟩,λ_ hR=>⟨hR,by rw[h]⟩⟩
theorem Jc.heap{w':World}(hw:Jc G g w H)(h:w'.heap=w.heap):Jc G g w' H where
 Na i row hg:=(hw.Na i row hg).mono (.heap h)
 Ff:=hw.Ff
 Kf b x hd hx:=by
  have:=hw.Kf b x hd hx;cases x with
  |dead=>trivial
  |cells rows sz ty=>
   obtain⟨h0,h1,h2,h3,cs,⟨T,fz,hR,h4⟩,h5⟩:=this;exact⟨h0.same (by rw[h]),h1,h2,h3,cs,⟨T,fz,by rw[h];exact hR,h4⟩,λr row hr=>⟨(h5 r row hr).1,(h5 r row hr).2.mono (.heap h)⟩⟩
  |map es=>
   obtain⟨Mg,clock,hR,hz,hl,h5⟩:=this;exact⟨Mg,clock,by rw[h];exact hR,hz,hl,λi k x e he hc=>⟨(h5 i k x e he hc).1,(h5 i k x e he hc).2.1.mono (.heap h),(h5 i k x e he hc).2.2.mono (.heap h)⟩⟩
  |loop=>obtain⟨r,hR,h1,h2,h3,h4,h5,h6,h7,h8⟩:=this;exact⟨r,by rw[h];exact hR,h1,h2,h3,h4,h5,h6,h7,λt a ha=>(h8 t a ha).mono (.heap h)⟩
 inj:=hw.inj
 yF R hR:=(hw.yF R hR).to (by rw[h])
theorem ze.heap{w':World}(hf:ze g f w H F)(h:w'.heap=w.heap):ze g f w' H F where
 Ff:=hf.Ff
 Kf i row hi hr:=by
  obtain⟨cs,⟨T,fz,hR,h4⟩,h5⟩:=hf.Kf i row hi hr;exact⟨cs,⟨T,fz,by rw[h];exact hR,h4⟩,h5.mono (.heap h)⟩
 inj:=hf.inj
 apart:=hf.apart
theorem Wg.heap{w':World}(h:w'.heap=w.heap)(OB:w'.os=w.os/\w'.output=w.output:=by first|exact⟨rfl,rfl⟩|assumption):Wg g f w H F g f w' H F:=
 ⟨λ_ h=>⟨h,rfl⟩,λ_ h=> .inl h,λ_ h=>h,λ_ h=> .inl h,λ_ h=> .inl h,λ_ h=>⟨h,rfl⟩,λ_ h=> .inl h,λ_ h h'=>absurd h h',λ_ _ _ _=>by rw[h],by rw[h];exact ya _,ya _,ya _,rfl,λ_ _ _=>rfl,λ_ _ _=>by rw[h],λ_ _=>Iff.rfl,λ_ h h'=>absurd h h',λ_ _ _=>by rw[h],OB⟩
theorem Qj(H:AH)(b b':Nat)(x:AB):(Qa H b x).bl[b']?=if b=b' then(if b<H.bl.length then some x else none)else H.bl[b']?:=by
 simp only[Qa,Cc]
theorem xm{b b':Nat}{x:AB}(h:live g (Qa H b x) b'):(b'=b/\Me x=true)\/(b'≠b/\live g H b'):=by
 obtain⟨hd,y,hy,hl⟩:=h;rw[Qj]at hy;split at hy
 ·rename_i e;split at hy
  ·simp at hy;subst hy;exact .inl ⟨e.symm,hl⟩
  ·simp at hy
 ·rename_i e;exact .inr ⟨λe'=>e e'.symm,hd,y,hy,hl⟩
theorem Xg.other{w':World}{l:Loc}{x:AB}(hle:g.Le w g w')(hR:Me x=true->w'.heap[l.R]?=w.heap[l.R]?)(h:Xg g w l x):Xg g w' l x:=by
 cases x with
 |dead=>trivial
 |cells rows sz ty=>
  obtain⟨h0,h1,h2,h3,cs,⟨T,fz,Ey,h4⟩,h5⟩:=h;exact⟨h0.same (hR rfl),h1,h2,h3,cs,⟨T,fz,by rw[hR rfl];exact Ey,h4⟩,λr row hr=>⟨(h5 r row hr).1,(h5 r row hr).2.mono hle⟩⟩
 |map es=>
  obtain⟨Mg,clock,Ey,hz,hl,h5⟩:=h;exact⟨Mg,clock,by rw[hR rfl];exact Ey,hz,hl,λi k x e he hc=>⟨(h5 i k x e he hc).1,(h5 i k x e he hc).2.1.mono hle,(h5 i k x e he hc).2.2.mono hle⟩⟩
 |loop=>obtain⟨r,Ey,h1,h2,h3,h4,h5,h6,h7,h8⟩:=h;exact⟨r,by rw[hR rfl];exact Ey,h1,h2,h3,h4,h5,h6,h7,λt a ha=>(h8 t a ha).mono hle⟩
theorem Of{w':World}{b:Nat}{x:AB}(hw:Jc G g w H)(hf:ze g f w H F)(hb:live g H b)(Th:H.wm<=b)
  (Nj:w'.heap.size=w.heap.size) (Ae:∀R,R≠(g.ρ b).R->w'.heap[R]?=w.heap[R]?) (hx:g.Le w g w'->Xg g w' (g.ρ b) x) (OB:w'.os=w.os/\w'.output=w.output:=by first|exact⟨rfl,rfl⟩|assumption):
  Jc G g w' (Qa H b x)/\ze g f w' (Qa H b x) F/\Wg g f w H F g f w' (Qa H b x) F:=by
 have hle:g.Le w g w':=⟨λ_ hb=>⟨hb,rfl⟩,λR hR=>⟨hR,Ae R (λe=>hw.Dn hb (e ▸ hR))⟩⟩;have DF:∀R,Fp g (Qa H b x) R->Fp g H R:=λR⟨b',hl,e⟩=>by
  rcases xm hl with⟨rfl,_⟩|⟨_,h⟩
  ·exact⟨_,hb,e⟩
  ·exact⟨_,h,e⟩
 refine⟨⟨λi row hg=>(hw.Na i row hg).mono hle,λb' hd=>by simpa[Qa]using hw.Ff b' hd,λb' y hd hy=> ?_,λb1 b2 h1 h2 td=> ?_,λR hR=>(hw.yF R hR).le hle hR⟩,
  ⟨hf.Ff,λi row hi hr=> ?_,hf.inj,λi hi h=>hf.apart i hi (DF _ h)⟩,?_⟩
 ·rw[Qj]at hy;split at hy
  ·rename_i e;subst e;split at hy
   ·simp at hy;subst hy;exact hx hle
   ·simp at hy
  ·rename_i e;refine(hw.Kf b' y hd hy).other hle (λhl=>Ae _ (hw.inj b' b ⟨hd,y,hy,hl⟩ hb (λe'=>e e'.symm)))
 ·have dG:live g H b1:=by rcases xm h1 with⟨rfl,_⟩|⟨_,h⟩<;>assumption
  have jY:live g H b2:=by rcases xm h2 with⟨rfl,_⟩|⟨_,h⟩<;>assumption
  exact hw.inj b1 b2 dG jY td
 ·obtain⟨cs,⟨T,fz,hR,h4⟩,h5⟩:=hf.Kf i row hi hr;exact⟨cs,⟨T,fz,by rw[Ae _ (λe=>hf.apart i hi ⟨b,hb,e.symm⟩)];exact hR,h4⟩,h5.mono hle⟩
 ·refine⟨λ_ h=>⟨h,rfl⟩,λ_ h=> .inl h,λ_ h=>h,λ_ h=> .inl h,λR h=> .inl (DF R h),λ_ h=>⟨h,rfl⟩,λ_ h=> .inl h,λ_ h h'=>absurd h h',λR _ hn _=>Ae R (λe=>hn ⟨b,hb,e.symm⟩),by rw[Nj];exact ya _,by simp[Qa],ya _,rfl,λb' Wd _=> ?_,λb' Wd hv=>Ae _ (hw.inj b' b hv hb (by omega)),λ_ _=>Iff.rfl,λ_ h h'=>absurd h h',λi hi _=>Ae _ (λe=>hf.apart i hi ⟨b,hb,e.symm⟩),OB⟩;rw[Qj,if_neg (by omega)]
theorem UU{w':World}{i:Nat}{row:List AV}(hw:Jc G g w H)(hf:ze g f w H F)(hi:f.E i)(hWi:f.W i)
  (Nj:w'.heap.size=w.heap.size) (Ae:∀R,R≠f.φ i->w'.heap[R]?=w.heap[R]?) (hx:g.Le w g w'->∃cs,Row g w' (f.φ i) row.length cs/\Lf g w' cs 0 row) (OB:w'.os=w.os/\w'.output=w.output:=by first|exact⟨rfl,rfl⟩|assumption):
  Jc G g w' H/\ze g f w' H (F.set i row)/\Wg g f w H F g f w' H (F.set i row):=by
 have hle:g.Le w g w':=⟨λ_ hb=>⟨hb,rfl⟩,λR hR=>⟨hR,Ae R (λe=>hf.Dn hi (e ▸ hR))⟩⟩;refine⟨⟨λi row hg=>(hw.Na i row hg).mono hle,hw.Ff,λb y hd hy=>(hw.Kf b y hd hy).other hle (λhl=>Ae _ (λe=>hf.apart i hi ⟨b,⟨hd,y,hy,hl⟩,e⟩)),hw.inj,λR hR=>(hw.yF R hR).le hle hR⟩,
  ⟨λj hj=>by simpa using hf.Ff j hj,λj Vb hj hr=> ?_,hf.inj,hf.apart⟩,?_⟩
 ·rw[Cc]at hr;split at hr
  ·rename_i e;subst e;split at hr
   ·simp at hr;subst hr;exact hx hle
   ·simp at hr
  ·rename_i e;obtain⟨cs,⟨T,fz,hR,h4⟩,h5⟩:=hf.Kf j Vb hj hr;exact⟨cs,⟨T,fz,by rw[Ae _ (λe'=>e ((kq λtd=>hf.inj i j hi hj td e'.symm)))];exact hR,h4⟩,h5.mono hle⟩
 ·exact⟨λ_ h=>⟨h,rfl⟩,λ_ h=> .inl h,λ_ h=>h,λ_ h=> .inl h,λ_ h=> .inl h,λ_ h=>⟨h,rfl⟩,λ_ h=> .inl h,λ_ h h'=>absurd h h',λR _ _ hn=>Ae R (λe=>hn i hi e.symm),by rw[Nj];exact ya _,ya _,by simp,rfl,λ_ _ _=>rfl,λb _ hv=>Ae _ (λe=>hf.apart i hi ⟨b,hv,e⟩),λ_ _=>Iff.rfl,λ_ h h'=>absurd h h',λj hj hn=>Ae _ (λe=>hn ((kq λtd=>hf.inj j i hj hi (λe'=>td (e' ▸ hWi)) e))),OB⟩
def Gx.add(g:Gx)(b:Nat)(l:Loc):Gx:={ g with D:=λi=>g.D i\/i=b,ρ:=λi=>if i=b then l else g.ρ i }
def Fx.add(f:Fx)(i R:Nat):Fx:={ E:=λj=>f.E j\/j=i,φ:=λj=>if j=i then R else f.φ j,W:=λj=>f.W j\/j=i }
theorem rm(H:AH)(x:AB)(b:Nat):(push H x).bl[b]?=if b<H.bl.length then H.bl[b]? else if b=H.bl.length then some x else none:=by
 simp only[push];rcases Nat.lt_trichotomy b H.bl.length with h|h|h
 ·simp[h,Ja]
 ·subst h;simp
 ·rw[Oa (by omega),if_neg (by omega),if_neg (by omega)];exact Nb (by simp;omega)
theorem Fw{l:Loc}{x:AB}{b:Nat}(War:∀b,g.D b->b<H.bl.length)(h:live (g.add H.bl.length l) (push H x) b):b=H.bl.length\/live g H b:=by
 obtain⟨hd,y,hy,hl⟩:=h;rcases hd with hd|hd
 ·right;have:=War b hd;rw[rm,if_pos this]at hy;exact⟨hd,y,hy,hl⟩
 ·exact .inl hd
theorem Gj{l:Loc}{b n:Nat}(h:b≠n):(g.add n l).ρ b=g.ρ b:=by simp[Gx.add,h]
theorem Ng{l:Loc}{n:Nat}:(g.add n l).ρ n=l:=by simp[Gx.add]
theorem Xg.le{g g':Gx}{w w':World}{l:Loc}{x:AB}(hle:g.Le w g' w')(hR:Me x=true->w'.heap[l.R]?=w.heap[l.R]?)(hz:Me x=true->¬g'.Z l.R)(h:Xg g w l x):Xg g' w' l x:=by
 cases x with
 |dead=>trivial
 |cells rows sz ty=>
  obtain⟨h0,h1,h2,h3,cs,⟨T,fz,Ey,h4,h6,_⟩,h5⟩:=h;exact⟨h0.same (hR rfl),h1,h2,h3,cs,⟨T,fz,by rw[hR rfl];exact Ey,h4,h6,hz rfl⟩,λr row hr=>⟨(h5 r row hr).1,(h5 r row hr).2.mono hle⟩⟩
 |map es=>
  obtain⟨Mg,clock,Ey,_,hl,h5⟩:=h;exact⟨Mg,clock,by rw[hR rfl];exact Ey,hz rfl,hl,λi k x e he hc=>⟨(h5 i k x e he hc).1,(h5 i k x e he hc).2.1.mono hle,(h5 i k x e he hc).2.2.mono hle⟩⟩
 |loop=>obtain⟨r,Ey,h1,h2,h3,h4,h5,h6,h7,h8⟩:=h;exact⟨r,by rw[hR rfl];exact Ey,hz rfl,h2,h3,h4,h5,h6,h7,λt a ha=>(h8 t a ha).mono hle⟩
theorem Vs{w':World}{x:AB}{l:Loc}(hw:Jc G g w H)(hf:ze g f w H F)(Nj:w.heap.size<=w'.heap.size)
  (hR:l.R=w.heap.size) (Mc:w.heap.size<w'.heap.size) (Ae:∀R,R<w.heap.size->w'.heap[R]?=w.heap[R]?)
  (hx:g.Le w (g.add H.bl.length l) w'->Xg (g.add H.bl.length l) w' l x) (OB:w'.os=w.os/\w'.output=w.output:=by first|exact⟨rfl,rfl⟩|assumption):
  Jc G (g.add H.bl.length l) w' (push H x)/\ze (g.add H.bl.length l) f w' (push H x) F/\Wg g f w H F (g.add H.bl.length l) f w' (push H x) F:=by
 have hold:∀b,g.D b->(g.add H.bl.length l).ρ b=g.ρ b:=λb hb=>Gj (by have:=hw.Ff b hb;omega)
 have hle:g.Le w (g.add H.bl.length l) w':=⟨λb hb=>⟨.inl hb,hold b hb⟩,λR h=>⟨h,Ae R (hw.O8 h)⟩⟩;have DF:∀R,Fp (g.add H.bl.length l) (push H x) R->Fp g H R\/R=w.heap.size:=λR⟨b,hb,e⟩=>by
  rcases Fw hw.Ff hb with rfl|hb
  ·right;rw[<- e,Ng,hR]
  ·left;exact⟨b,hb,by rw[<- e,hold b hb.1]⟩
 refine⟨⟨λi row hg=>(hw.Na i row hg).mono hle,λb hb=> ?_,λb y hd hy=> ?_,λb b' hb Wd td=> ?_,λR h=>(hw.yF R h).le hle h⟩,
  ⟨hf.Ff,λi row hi hr=> ?_,hf.inj,λi hi h=> ?_⟩,?_⟩
 ·rcases hb with hb|rfl
  ·have:=hw.Ff b hb;simp[push];omega
  ·simp[push]
 ·rcases hd with hd|rfl
  ·have gD:=hw.Ff b hd;rw[rm,if_pos gD]at hy;rw[hold b hd];exact(hw.Kf b y hd hy).le hle (λhl=>Ae _ (hw.lt ⟨hd,y,hy,hl⟩)) (λhl=>hw.Dn ⟨hd,y,hy,hl⟩)
  ·rw[rm,if_neg (by omega),if_pos rfl]at hy;simp at hy;subst hy;rw[Ng];exact hx hle
 ·rcases Fw hw.Ff hb with rfl|h1<;>rcases Fw hw.Ff Wd with rfl|h2
  ·exact absurd rfl td
  ·rw[Ng,hold _ h2.1,hR];have:=hw.lt h2;omega
  ·rw[Ng,hold _ h1.1,hR];have:=hw.lt h1;omega
  ·rw[hold _ h1.1,hold _ h2.1];exact hw.inj _ _ h1 h2 td
 ·obtain⟨cs,⟨T,fz,Ey,h4⟩,h5⟩:=hf.Kf i row hi hr;exact⟨cs,⟨T,fz,by rw[Ae _ (hf.lt hi)];exact Ey,h4⟩,h5.mono hle⟩
 ·rcases DF _ h with h|h
  ·exact hf.apart i hi h
  ·have:=hf.lt hi;omega
 ·refine⟨λb hb=>⟨.inl hb,hold b hb⟩,λb hb=>hb.elim .inl (λe=> .inr (by omega)),λ_ h=>h,λ_ h=> .inl h,
   λR h=>(DF R h).elim .inl (λe=> .inr (by omega)),λ_ h=>⟨h,rfl⟩,λ_ h=> .inl h,λ_ h h'=>absurd h h',
   λR hR _ _=>Ae R hR,Nj,by simp[push],ya _,rfl,λb _ hl=> ?_,λb _ hv=>Ae _ (hw.lt hv),λ_ _=>Iff.rfl,λ_ h h'=>absurd h h',λi hi _=>Ae _ (hf.lt hi),OB⟩
  rw[rm,if_pos hl]
theorem Ru{w':World}(hw:Jc G g w H)(hf:ze g f w H F)(Nj:w.heap.size<=w'.heap.size)(Ae:∀R,R<w.heap.size->w'.heap[R]?=w.heap[R]?)(OB:w'.os=w.os/\w'.output=w.output:=by first|exact⟨rfl,rfl⟩|assumption):
  Jc G g w' H/\ze g f w' H F/\Wg g f w H F g f w' H F:=by
 have hle:g.Le w g w':=⟨λb hb=>⟨hb,rfl⟩,λR h=>⟨h,Ae R (hw.O8 h)⟩⟩;refine⟨⟨λi row hg=>(hw.Na i row hg).mono hle,hw.Ff,λb y hd hy=>(hw.Kf b y hd hy).le hle (λhl=>Ae _ (hw.lt ⟨hd,y,hy,hl⟩)) (λhl=>hw.Dn ⟨hd,y,hy,hl⟩),hw.inj,λR h=>(hw.yF R h).le hle h⟩,
  ⟨hf.Ff,λi row hi hr=> ?_,hf.inj,hf.apart⟩,?_⟩
 ·obtain⟨cs,⟨T,fz,Ey,h4⟩,h5⟩:=hf.Kf i row hi hr;exact⟨cs,⟨T,fz,by rw[Ae _ (hf.lt hi)];exact Ey,h4⟩,h5.mono hle⟩
 ·exact⟨λb hb=>⟨hb,rfl⟩,λb hb=> .inl hb,λ_ h=>h,λ_ h=> .inl h,λR h=> .inl h,λi hi=>⟨hi,rfl⟩,
   λi hi=> .inl hi,λi hi hn=>absurd hi hn,λR hR _ _=>Ae R hR,Nj,ya _,ya _,rfl,λ_ _ _=>rfl,λb _ hv=>Ae _ (hw.lt hv),λ_ _=>Iff.rfl,λ_ h h'=>absurd h h',λi hi _=>Ae _ (hf.lt hi),OB⟩
theorem J'{w':World}{row:List AV}(hw:Jc G g w H)(hf:ze g f w H F)
  (Mc:w.heap.size<w'.heap.size) (Ae:∀R,R<w.heap.size->w'.heap[R]?=w.heap[R]?)
  (hx:g.Le w g w'->∃cs,Row g w' w.heap.size row.length cs/\Lf g w' cs 0 row) (OB:w'.os=w.os/\w'.output=w.output:=by first|exact⟨rfl,rfl⟩|assumption):
  Jc G g w' H/\ze g (f.add F.length w.heap.size) w' H (F++[row])/\Wg g f w H F g (f.add F.length w.heap.size) w' H (F++[row]):=by
 have hle:g.Le w g w':=⟨λb hb=>⟨hb,rfl⟩,λR h=>⟨h,Ae R (hw.O8 h)⟩⟩;have hold:∀i,f.E i->(f.add F.length w.heap.size).φ i=f.φ i:=λi hi=>by have:=hf.Ff i hi;simp[Fx.add,Nat.ne_of_lt this]
 refine⟨⟨λi row hg=>(hw.Na i row hg).mono hle,hw.Ff,λb y hd hy=>(hw.Kf b y hd hy).le hle (λhl=>Ae _ (hw.lt ⟨hd,y,hy,hl⟩)) (λhl=>hw.Dn ⟨hd,y,hy,hl⟩),hw.inj,λR h=>(hw.yF R h).le hle h⟩,
  ⟨λi hi=> ?_,λi Vb hi hr=> ?_,λi j hi hj td=> ?_,λi hi h=> ?_⟩,?_⟩
 ·rcases hi with hi|rfl
  ·have:=hf.Ff i hi;simp;omega
  ·simp
 ·rcases hi with hi|rfl
  ·have hl:=hf.Ff i hi;rw[Ja hl]at hr;obtain⟨cs,⟨T,fz,Ey,h4⟩,h5⟩:=hf.Kf i Vb hi hr;rw[hold i hi];exact⟨cs,⟨T,fz,by rw[Ae _ (hf.lt hi)];exact Ey,h4⟩,h5.mono hle⟩
  ·simp at hr;subst hr;have:(f.add F.length w.heap.size).φ F.length=w.heap.size:=by simp[Fx.add]
   rw[this];exact hx hle
 ·have gf:(f.add F.length w.heap.size).φ F.length=w.heap.size:=by simp[Fx.add]
  rcases hi with hi|rfl<;>rcases hj with hj|rfl
  ·rw[hold i hi,hold j hj];exact hf.inj i j hi hj td
  ·rw[hold i hi,gf];have:=hf.lt hi;omega
  ·rw[hold j hj,gf];have:=hf.lt hj;omega
  ·exact absurd rfl td
 ·rcases hi with hi|rfl
  ·rw[hold i hi]at h;exact hf.apart i hi h
  ·obtain⟨b,hb,e⟩:=h;have:=hw.lt hb;simp[Fx.add]at e;omega
 ·exact⟨λb hb=>⟨hb,rfl⟩,λb hb=> .inl hb,λ_ h=>h,λ_ h=> .inl h,λR h=> .inl h,λi hi=>⟨.inl hi,hold i hi⟩,
   λi hi=>hi.elim .inl (λe=> .inr (by omega)),λi hi hn=>by rcases hi with hi|rfl;exact absurd hi hn;simp[Fx.add],
   λR hR _ _=>Ae R hR,js Mc,ya _,by simp,rfl,λ_ _ _=>rfl,λb _ hv=>Ae _ (hw.lt hv),λi hi=>⟨λh=>h.elim id (λe=>by have:=hf.Ff i hi;omega),.inl⟩,λi hi hn=> .inr (hi.resolve_left hn),λi hi _=>Ae _ (hf.lt hi),OB⟩
end
end Go.V
namespace Go.V
open Go
variable [Inhabited Rn]
def HN(G:Nat->Option (List AV))(g:Gx)(f:Fx)(w:World)(s s':S)(v:SV)(r:Result Next):Prop:=
 ∃rv w' g' f',(r= .ok (.value rv) w'\/(r= .ok .skip w'/\rv=undef))/\Jc G g' w' s'.H/\ze g' f' w' s'.H s'.F/\Wg g f w s.H s.F g' f' w' s'.H s'.F/\qf g' f' w' v rv
section
variable {A:Oi}{g:Gx}{f:Fx}{w:World}{s:S}{a:Act}
theorem Jf{v:SV}{rv:Value}{r:Result Next}(hw:Jc A.Na g w s.H)(hf:ze g f w s.H s.F)(hr:r= .ok (.value rv) w)(hv:qf g f w v rv):HN A.Na g f w s s v r:=
 ⟨rv,w,g,f,.inl hr,hw,hf,.refl _ _ _ _ _,hv⟩
theorem Qn{c:Value}{x:AV}(h:Ql c=some x):Cb g w x c:=by
 unfold Ql at h;split at h<;>simp at h<;>subst h
 ·exact .bool _
 ·exact .int _ _
 ·exact .str _
 ·exact .Hf
 ·exact .Xa
 ·exact .ig
 ·exact .og
 ·exact .zh
theorem ef{x:Operand}{sv:SV}(h:operand A s.e x=some sv)(hw:Jc A.Na g w s.H)(he:Mf g f w s.e a.tmps):qf g f w sv (a.eval x):=by
 cases x with
 |tmp t=>simp[operand]at h;subst h;exact he t
 |const c=>
  simp only[operand,ja]at h;obtain⟨x,hx,rfl⟩:=h;exact Qn hx
 |global gi=>
  simp only[operand,ja]at h;obtain⟨row,hr,rfl⟩:=h;exact(hw.Na gi row hr).v
 |func fid=>
  simp[operand]at h;subst h;exact .fn fid [] [] rfl (λi x v h=>by simp at h)
theorem Fc{x:Operand}{av:AV}(h:val A s.e x=some av)(hw:Jc A.Na g w s.H)(he:Mf g f w s.e a.tmps):Cb g w av (a.eval x):=by
 unfold val at h;split at h
 ·rename_i av' ho;simp at h;subst h;exact ef ho hw he
 ·simp at h
theorem gp:∀{xs:List Operand}{l:List AV},Pk A s.e xs=some l->Jc A.Na g w s.H->Mf g f w s.e a.tmps->
  l.length=xs.length/\∀(i:Nat)(x:AV)(v:Value),l[i]?=some x->(xs.map a.eval)[i]?=some v->Cb g w x v
 |[],l,h,_,_=>by simp[Pk]at h;subst h;exact⟨rfl,λi x v h=>by simp at h⟩
 |x::xs,l,h,hw,he=>by
  simp only[Pk,aa]at h;obtain⟨av,A_,l',Fg,h⟩:=h;simp at h;subst h;obtain⟨h1,h2⟩:=gp Fg hw he;refine⟨by simp[h1],λi y v hy hv=> ?_⟩;cases i with
  |zero=>simp at hy hv;subst hy;subst hv;exact Fc A_ hw he
  |succ i=>exact h2 i y v (by simpa using hy) (by simpa using hv)
theorem kn{x:AV}{cs:List AV}{v:Value}(h:x.cells?=some cs)(hx:Cb g w x v):
  v.cells.size=cs.length/\(∀u∈v.cells.toList,u.oneCell'=true)/\∀(i:Nat)(y:AV)(u:Value),cs[i]?=some y->v.cells.toList[i]?=some u->Cb g w y u:=by
 have one:∀{y:AV}{u:Value},Cb g w y u->u.oneCell'=true->u.cells= #[u]->cs=[y]->
   u.cells.size=cs.length/\(∀z∈u.cells.toList,z.oneCell'=true)/\∀(i:Nat)(y:AV)(z:Value),cs[i]?=some y->u.cells.toList[i]?=some z->Cb g w y z:=by
  intro y u hy h1 hc Kj;subst Kj;rw[hc];refine⟨rfl,λz hz=>by simp at hz;subst hz;exact h1,λi y' z Ze hz=> ?_⟩;cases i with
  |zero=>simp at Ze hz;subst Ze;subst hz;exact hy
  |succ i=>simp at Ze
 cases hx
 case agg l vs hl h1 hr=>
  simp[AV.cells?]at h;subst h;refine⟨by simp[Value.cells,hl],λu hu=>h1 u (by simpa[Value.cells]using hu),λi y u hy hu=>hr i y u hy (by simpa[Value.cells]using hu)⟩
 case Dc=>simp[AV.cells?]at h
 case Re=>simp[AV.cells?]at h
 case lits sz a=>
  simp only[AV.cells?,Wc]at h;exact one (.lits sz a) rfl rfl h.symm
 all_goals
  simp only[AV.cells?,Wc]at h;refine one ?_ rfl rfl h.symm;constructor<;>assumption
theorem pG.setRow{w:World}{l:Loc}{ty:Option (TypeId×Nat)}(h:pG w l ty)(Ei:Array Value):pG (w.setRow l.R Ei) l ty:=
 h.of λcs T fz hR=>⟨Ei,fz,setRow_heap w l.R cs Ei T fz hR⟩
theorem oN(hf:ze g f w s.H s.F){i:Nat}{row:List AV}(hi:f.E i)(hr:s.F[i]?=some row):zn g w (f.φ i) 0 row:=by
 obtain⟨cs,⟨T,fz,hR,_⟩,h5⟩:=hf.Kf i row hi hr;exact .oO hR h5
theorem lG(hw:Jc A.Na g w s.H){b r:Nat}{row:List AV}(hb:g.D b)(hr:rowAt s.H b r=some row):zn g w (g.ρ b).R ((g.ρ b).o+r * (g.ρ b).sz) row:=by
 unfold rowAt at hr;split at hr
 ·rename_i rows sz ty hx;obtain⟨_,_,eg,_,cs,⟨T,fz,hR,_⟩,h5⟩:=hw.Kf b _ hb hx;rw[eg];exact .oO hR (h5 r row hr).2
 ·simp at hr
theorem xK{row:List AV}{p:Addr}(h:Cb g w (.ee row) (.pointer (some p))):zn g w p.block p.off row/\p.spot=none:=by
 cases h with
 |ee row a vs hs hz hc h1 hr=>
  exact⟨λj x hx=>⟨vs j,hc j (by rcases dc j row.length with h|h;exact h;simp[Nb h]at hx),h1 j (by rcases dc j row.length with h|h;exact h;simp[Nb h]at hx),hr j x hx⟩,hs⟩
theorem DL{t:TypeId}{p:SV}{x:AV}{pv:Value}(h:load A s t p=some x)(hw:Jc A.Na g w s.H)(hf:ze g f w s.H s.F)(hp:qf g f w p pv):
  ∃ad v,pv= .pointer (some ad)/\(loadVar t ad).run A.P w= .ok v w/\Cb g w x v:=by
 unfold load at h;split at h
 ·rename_i i c;simp only[aa]at h;obtain⟨row,hr,hx⟩:=h;obtain⟨hi,rfl⟩:=hp;obtain⟨v,h1,h2⟩:=Oq hx (oN hf hi hr);rw[Qf]at h1;exact⟨_,v,rfl,h1,h2⟩
 ·rename_i b r c;simp only[aa]at h;obtain⟨row,hr,hx⟩:=h;cases hp with
  |ptr _ _ _ hb=>
   obtain⟨v,h1,h2⟩:=Oq hx (lG hw hb hr);exact⟨_,v,rfl,h1,h2⟩
 ·rename_i row;have bz:Cb g w (.ee row) pv:=hp;cases bz with
  |ee _ a vs hs hz hc h1 hr=>
   obtain⟨hca,qg⟩:=xK (.ee row a vs hs hz hc h1 hr);obtain⟨v,h1,h2⟩:=Oq h hca;rw[ug,<- Zl qg]at h1;exact⟨_,v,rfl,h1,h2⟩
 ·simp at h
theorem RC{t:TypeId}{p:SV}{x:AV}{pv:Value}(h:load A s t p=some x)(hw:Jc A.Na g w s.H)(hf:ze g f w s.H s.F)(hp:qf g f w p pv):
  ∃v,(Instr.loadAt t pv).run A.P w= .ok v w/\Cb g w x v:=by
 obtain⟨ad,v,rfl,h1,h2⟩:=DL h hw hf hp;exact⟨v,by simp[Instr.loadAt,Instr.sureAddr,h1],h2⟩
theorem lp{g:Gx}{w:World}{cs:Array Value}{base c:Nat}{row Vb new:List AV}{vs:List Value}(h:gg row c new=some Vb)(hl:vs.length=new.length)
  (hr:Lf g w cs base row) (h1:∀u∈vs,u.oneCell'=true) (hv:∀(i:Nat)(y:AV)(u:Value),new[i]?=some y->vs[i]?=some u->Cb g w y u) (Kj:base+row.length<=cs.size):
  Vb.length=row.length/\Lf g w (cs.toList.take (base+c)++vs++cs.toList.drop (base+c+vs.length)).toArray base Vb:=by
 unfold gg at h;split at h
 case isFalse=>simp at h
 case isTrue hle=>
  simp at h;subst h;refine⟨by simp;omega,λj x hx=> ?_⟩;simp only[qd];have W8:(cs.toList.take (base+c)).length=base+c:=by simp;omega
  by_cases hj:j<c
  ·rw[Ja (by simp;omega),Jb,if_pos hj]at hx;obtain⟨v,e1,e2,e3⟩:=hr j x hx;refine⟨v,?_,e2,e3⟩;rw[Je,Ja (by omega),Jb,if_pos (by omega)]
   simpa using e1
  ·rw[Oa (by simp;omega)]at hx;have KO:min c row.length=c:=by omega
   simp only[je,KO]at hx;rw[Je,Oa (by omega),W8];by_cases hj2:j-c<new.length
   ·rw[Ja hj2]at hx;have Mc:j-c<vs.length:=by omega
    refine⟨vs[j-c],?_,h1 _ (JF Mc),hv (j-c) x _ hx (Da Mc)⟩;rw[Ja (by omega),show base+j-(base+c)=j-c by omega,Da Mc]
   ·rw[Oa (by omega),Lc,show c+new.length+(j-c-new.length)=j by omega]at hx;obtain⟨v,e1,e2,e3⟩:=hr j x hx;refine⟨v,?_,e2,e3⟩;rw[Oa (by omega),Lc,show base+c+vs.length+(base+j-(base+c)-vs.length)=base+j by omega]
    simpa using e1
theorem gw{g:Gx}{w:World}{cs:Array Value}{base NH lo:Nat}{row:List AV}{vs:List Value}(hr:Lf g w cs NH row)(Sv:base<=lo)(qS:lo+vs.length<=base+row.length)(Xaq:NH+row.length<=base\/base+row.length<=NH)(Kj:base+row.length<=cs.size):
  Lf g w (cs.toList.take lo++vs++cs.toList.drop (lo+vs.length)).toArray NH row:=by
 intro j x hx;have hj:j<row.length:=by rcases dc j row.length with h|h;exact h;simp[Nb h]at hx
 obtain⟨v,e1,e2,e3⟩:=hr j x hx;refine⟨v,?_,e2,e3⟩;have W8:(cs.toList.take lo).length=lo:=by simp;omega
 simp only[qd,Je];rcases Xaq with h|h
 ·rw[Ja (by omega),Jb,if_pos (by omega)];simpa using e1
 ·rw[Oa (by omega),W8,Oa (by omega),Lc,show lo+vs.length+(NH+j-lo-vs.length)=NH+j by omega]
  simpa using e1
theorem Row.set{g:Gx}{w:World}{R e:Nat}{cs Ei:Array Value}(h:Row g w R e cs)(hs:Ei.size=e):Row g (w.setRow R Ei) R e Ei:=by
 obtain⟨T,fz,hR,eg,Tn,hz⟩:=h;exact⟨T,fz,setRow_heap w R cs Ei T fz hR,hs,Tn,hz⟩
theorem ZK{t:TypeId}{p:SV}{x:AV}{pv xv:Value}{s':S}(h:store A s t p x=some s')(hw:Jc A.Na g w s.H)(hf:ze g f w s.H s.F)(hp:qf g f w p pv)(hx:Cb g w x xv)(hWr:∀i c,p= .loc i c->f.W i):
  ∃w',(Instr.storeAt t pv xv).run A.P w= .ok () w'/\Jc A.Na g w' s'.H/\ze g f w' s'.H s'.F/\Wg g f w s.H s.F g f w' s'.H s'.F/\s'.e=s.e:=by
 unfold store at h;simp only[aa]at h;obtain⟨cs,Kj,n,hn,h⟩:=h;split at h
 case isFalse=>simp at h
 case isTrue hlen=>
  obtain⟨eg,h1,hrel⟩:=kn Kj hx;have PV:xv.cells.toList.length=cs.length:=by simpa using eg
  have ue:∀(R o:Nat),(Instr.storeAt t (.pointer (some ⟨R,o,none⟩)) xv).run A.P w=(storeCells ⟨R,o,none⟩ xv.cells.toList).run A.P w:=by
   intro R o;simp[Instr.storeAt,Instr.sureAddr,storeVar,Ld hn,eg,hlen]
  split at h
  ·rename_i i c;simp only[aa]at h;obtain⟨row,hr,Vb,qg,h⟩:=h;simp at h;subst h;obtain⟨hi,rfl⟩:=hp;obtain⟨oA,C0,Gl⟩:=hf.Kf i row hi hr;obtain⟨T,fz,hR,hY,Tn,hz⟩:=C0;have dW:c+cs.length<=row.length:=by unfold gg at qg;split at qg;assumption;simp at qg
   obtain⟨Fg,h_⟩:=lp qg PV Gl h1 hrel (by omega);rw[Qf]at h_;have Ec:=Sf A.P (f.φ i) c T fz xv.cells.toList 0 oA w hR (by omega) (λj hj=>by rw[ug];exact Tn _ (by omega)) h1;simp only[ug]at Ec;refine⟨_,(ue _ _).trans Ec,?_⟩;have GO:(oA.toList.take c++xv.cells.toList++oA.toList.drop (c+xv.cells.toList.length)).toArray.size=Vb.length:=by
    simp only[Lv,oe,je,List.length_drop,Gf]at *;omega
   obtain⟨q1,q2,q3⟩:=UU (i:=i) (row:=Vb) (w':=w.setRow (f.φ i) (oA.toList.take c++xv.cells.toList++oA.toList.drop (c+xv.cells.toList.length)).toArray) hw hf hi (hWr i c rfl) (setRow_size _ _ _) (λR td=>setRow_other _ _ _ _ td)
    (λhle=>⟨_,by rw[Fg];exact Row.set (show Row g w (f.φ i) row.length oA from⟨T,fz,hR,hY,Tn,hz⟩) (by rw[GO,Fg]),h_.mono hle⟩)
   exact⟨q1,q2,q3,rfl⟩
  ·rename_i b r c;split at h
   case h_2=>simp at h
   case h_1 rows sz ty hb=>
   split at h
   case isFalse=>simp at h
   case isTrue Th=>
    simp only[aa]at h;obtain⟨row,hr,Vb,qg,h⟩:=h;simp at h;subst h;cases hp with
    |ptr _ _ _ hD=>
    have Oe:live g s.H b:=⟨hD,_,hb,rfl⟩;obtain⟨V8,fg,f_,ez,oA,⟨T,fz,hR,hY,Tn,hz⟩,de⟩:=hw.Kf b _ hD hb;obtain⟨aD,Gl⟩:=de r row hr;have Dam:r<rows.length:=by rcases dc r rows.length with h|h;exact h;simp[Nb h]at hr
    have hmul:r * sz+sz<=rows.length * sz:=by rw[<- Lj];exact Vc _ Dam
    have dW:c+cs.length<=row.length:=by unfold gg at qg;split at qg;assumption;simp at qg
    obtain⟨Fg,h_⟩:=lp qg PV Gl h1 hrel (by omega);rw[f_]at *
    have Ec:=Sf A.P (g.ρ b).R ((g.ρ b).o+r * sz+c) T fz xv.cells.toList 0 oA w hR (by omega) (λj hj=>Tn _ (by omega)) h1;simp only[ug]at Ec;refine⟨_,(ue _ _).trans Ec,?_⟩;obtain⟨q1,q2,q3⟩:=Of (b:=b) (x:= .cells (rows.set r Vb) sz ty) (w':=w.setRow (g.ρ b).R (oA.toList.take ((g.ρ b).o+r * sz+c)++xv.cells.toList++oA.toList.drop ((g.ρ b).o+r * sz+c+xv.cells.toList.length)).toArray) hw hf Oe Th (setRow_size _ _ _) (λR td=>setRow_other _ _ _ _ td)
     (λhle=>⟨V8.setRow _,fg,(hw.Kf b _ hD hb).2.2.1,by simpa using ez,_,Row.set (show Row g w (g.ρ b).R (g.ρ b).e oA from⟨T,fz,hR,hY,Tn,hz⟩) (by simp only[Lv,oe,je,List.length_drop,Gf]at *;omega),λr' IY Eo=>by
      rw[Cc]at Eo;split at Eo
      ·rename_i e;subst e;simp[Dam]at Eo;subst Eo;exact⟨by rw[Fg];exact aD,h_.mono hle⟩
      ·rename_i td;obtain⟨XL,Gaf⟩:=de r' IY Eo;refine⟨XL,Lf.mono hle (gw (base:=(g.ρ b).o+r * sz) Gaf (by omega) (by omega) ?_ (by omega))⟩;rcases By td with h|h
       ·right;have:r * sz+sz<=r' * sz:=by rw[<- Lj];exact Vc _ h
        omega
       ·left;have:r' * sz+sz<=r * sz:=by rw[<- Lj];exact Vc _ h
        omega⟩)
    exact⟨q1,q2,q3,rfl⟩
  ·simp at h
end
end Go.V
namespace Go.V
open Go
variable [Inhabited Rn]
section
variable {A:Oi}{g:Gx}{f:Fx}{w:World}{s:S}{a:Act}
theorem mN{c:Value}{x:AV}(h:Ql c=some x):c.oneCell'=true:=by
 unfold Ql at h;split at h<;>simp at h<;>rfl
theorem Kh:∀{vs:List Value}{cs:List AV},Jd vs=some cs->vs.length=cs.length/\(∀u∈vs,u.oneCell'=true)/\∀(i:Nat)(y:AV)(u:Value),cs[i]?=some y->vs[i]?=some u->Cb g w y u
 |[],cs,h=>by simp[Jd]at h;subst h;exact⟨rfl,by simp,λi y u h=>by simp at h⟩
 |v::vs,cs,h=>by
  simp only[Jd,aa]at h;obtain⟨x,hx,xs,jt,h⟩:=h;simp at h;subst h;obtain⟨h1,h2,h3⟩:=Kh jt;refine⟨by simp[h1],λu hu=> ?_,λi y u hy hu=> ?_⟩
  ·simp at hu;rcases hu with rfl|hu
   ·exact mN hx
   ·exact h2 u hu
  ·cases i with
   |zero=>simp at hy hu;subst hy;subst hu;exact Qn hx
   |succ i=>exact h3 i y u (by simpa using hy) (by simpa using hu)
theorem mC{t:TypeId}{z:List AV}(h:zero A t=some z):∃v,(zeroValue t).run A.P w= .ok v w/\v.cells.size=z.length/\(∀u∈v.cells.toList,u.oneCell'=true)/\
  ∀(i:Nat)(y:AV)(u:Value),z[i]?=some y->v.cells.toList[i]?=some u->Cb g w y u:=by
 unfold zero at h;cases hi:A.P.info? t with
 |none=>simp[hi]at h
 |some i=>
  cases hz:i.zero with
  |none=>simp[hi,hz]at h
  |some v=>
   simp[hi,hz]at h;obtain⟨h1,h2,h3⟩:=Kh (g:=g) (w:=w) h;exact⟨v,by simp[zeroValue,typeInfo,hi,hz],by simpa using h1,h2,h3⟩
theorem qm{g:Gx}{w:World}{cs:List AV}{vs:Array Value}(hl:vs.size=cs.length)(h1:∀u∈vs.toList,u.oneCell'=true)
  (hr:∀(i:Nat)(y:AV)(u:Value),cs[i]?=some y->vs.toList[i]?=some u->Cb g w y u):Lf g w vs 0 cs:=by
 intro c x hx;have hc:c<cs.length:=by rcases dc c cs.length with h|h;exact h;simp[Nb h]at hx
 have hv:vs.toList[c]?=some vs[c]:=by simp
 exact⟨vs[c],by rw[Qf];simp,h1 _ (Eb hv),hr c x _ hx hv⟩
theorem LH{cs:List AV}{v:Value}{t:TypeId}{Ch:Bool}(hw:Jc A.Na g w s.H)(hf:ze g f w s.H s.F)(hl:v.cells.size=cs.length)(h1:∀u∈v.cells.toList,u.oneCell'=true)
  (hr:∀(i:Nat)(y:AV)(u:Value),cs[i]?=some y->v.cells.toList[i]?=some u->Cb g w y u) (fg:0<cs.length\/Ch=true) {r:Result Next}
  (ue:r= .ok (.value (.pointer (some ⟨w.heap.size,0,none⟩))) (w.alloc (.cells v.cells t))):
  HN A.Na g f w s (box s t Ch cs).2 (box s t Ch cs).1 r:=by
 have Mc:w.heap.size<(w.alloc (.cells v.cells t)).heap.size:=by show w.heap.size<(w.heap.push _).size;simp
 have Ae:∀R,R<w.heap.size->(w.alloc (.cells v.cells t)).heap[R]?=w.heap[R]?:=λR hR=>heap_alloc_old w _ R hR
 have hzn:¬g.Z w.heap.size:=λhz=>Nat.lt_irrefl _ (hw.O8 hz)
 cases Ch with
 |true=>
  have hx:g.Le w g (w.alloc (.cells v.cells t))->∃Ei,Row g (w.alloc (.cells v.cells t)) w.heap.size cs.length Ei/\Lf g (w.alloc (.cells v.cells t)) Ei 0 cs:=λhle=>
   ⟨v.cells,⟨t,(0,0),heap_alloc_new w _,hl,λoff _=>by simp,hzn⟩,(qm hl h1 hr).mono hle⟩
  obtain⟨q1,q2,q3⟩:=J' hw hf Mc Ae hx;refine⟨_,_,g,_,.inl ue,q1,q2,q3,?_⟩;exact⟨.inr rfl,by simp[Fx.add]⟩
 |false=>
  have hp:0<cs.length:=fg.resolve_right (by simp);have hx:g.Le w (g.add s.H.bl.length ⟨w.heap.size,0,cs.length,cs.length⟩) (w.alloc (.cells v.cells t))->
    Xg (g.add s.H.bl.length ⟨w.heap.size,0,cs.length,cs.length⟩) (w.alloc (.cells v.cells t)) ⟨w.heap.size,0,cs.length,cs.length⟩ (.cells [cs] cs.length (some (t,2))):=λhle=>
   ⟨⟨⟨_,_,heap_alloc_new w _⟩,λ_=>rfl,λ_=>rfl⟩,hp,rfl,by simp,v.cells,⟨t,(0,0),heap_alloc_new w _,hl,λoff _=>by simp,hzn⟩,λr row De=>by
    cases r with
    |zero=>simp at De;subst De;exact⟨rfl,by simpa using(qm hl h1 hr).mono hle⟩
    |succ r=>simp at De⟩
  obtain⟨q1,q2,q3⟩:=Vs (l:=⟨w.heap.size,0,cs.length,cs.length⟩) hw hf (js Mc) rfl Mc Ae hx;refine⟨_,_,_,f,.inl ue,q1,q2,q3,?_⟩;have:=Cb.ptr (g:=g.add s.H.bl.length ⟨w.heap.size,0,cs.length,cs.length⟩) (w:=w.alloc (.cells v.cells t)) s.H.bl.length 0 0 (.inr rfl)
  simpa[qf,box,Ng]using this
theorem Du{n:Nat}{p q:SV}{pv:Value}(h:rh n p=some q)(hp:qf g f w p pv):∃ad,pv= .pointer (some ad)/\qf g f w q (.pointer (some (ad.add n))):=by
 unfold rh at h;split at h<;>simp at h<;>subst h
 ·obtain⟨hi,rfl⟩:=hp;exact⟨_,rfl,hi,by rw[Vg]⟩
 ·rename_i b r c;cases hp with
  |ptr _ _ _ hb=>
   refine⟨_,rfl,?_⟩;have:=Cb.ptr (g:=g) (w:=w) b r (c+n) hb
   simpa[qf,Vg,Zf]using this
 ·rename_i row;have bz:Cb g w (.ee row) pv:=hp;cases bz with
  |ee _ ad vs hs hz hc h1 hr=>
   refine⟨ad,rfl,?_⟩;rw[Zl hs,Vg];refine Cb.ee (row.drop n) ⟨ad.block,ad.off+n,none⟩ (λc=>vs (n+c)) rfl hz (λc Gn=> ?_) (λc Gn=> ?_) (λc x hx=> ?_)
   ·have:=hc (n+c) (by simp at Gn;omega)
    simpa[Zf]using this
   ·exact h1 (n+c) (by simp at Gn;omega)
   ·rw[Lc]at hx;exact hr (n+c) x hx
theorem oD{t:TypeId}{i:Nat}{fd:Field}(h:field? A t i=some fd):∃fs,A.P.underlying t=some (.struct fs)/\fs[i]?=some fd:=by
 unfold field? at h;split at h
 ·rename_i fs hu;exact⟨fs,hu,h⟩
 ·simp at h
theorem HB{t:TypeId}{i:Nat}{fd:Field}{p q:SV}{pv:Value}(dM:field? A t i=some fd)(eg:size A fd.type≠some 0)(yZ:(size A fd.type).isSome=true)(h:rh fd.offset p=some q)(hp:qf g f w p pv):
  ∃v,(Instr.fieldAt t pv i).run A.P w= .ok v w/\qf g f w q v:=by
 obtain⟨fs,hu,hi⟩:=oD dM;obtain⟨ad,rfl,hq⟩:=Du h hp;refine⟨_,?_,hq⟩;cases hn:size A fd.type with
 |none=>simp[hn]at yZ
 |some n=>
  have td:n≠0:=λe=>eg (by rw[hn,e])
  simp[Instr.fieldAt,run_underlying hu,hi,Instr.sureAddr,fieldPlace,Ld hn,td]
theorem xk{i:Int}{n:Nat}(h:ua i n=true):0<=i/\i<(n:Int):=by simpa[ua]using h
theorem pR(hw:Jc A.Na g w s.H){b n:Nat}(hd:g.D b)(h:some n=Qk s.H b):(g.ρ b).sz=n/\0<n:=by
 unfold Qk at h;split at h
 ·rename_i rows sz ty hb;simp at h;subst h;obtain⟨_,h1,h2,_⟩:=hw.Kf b _ hd hb;exact⟨h2,h1⟩
 ·simp at h
theorem Ah{i n sz c:Nat}(hi:i<n)(hc:c<sz):i * sz+c<n * sz:=by
 have:i * sz+sz<=n * sz:=by rw[<- Lj];exact Vc _ hi
 omega
theorem tB{t:TypeId}{p q:SV}{pv:Value}{k:IntKind}{n:Int}(h:indexAddr A s.H t p n=some q)(hw:Jc A.Na g w s.H)(hp:qf g f w p pv):
  ∃v,(Instr.indexAt t pv (.int k n)).run A.P w= .ok v w/\qf g f w q v:=by
 unfold indexAddr at h;split at h
 ·rename_i len e hu;split at h
  case isFalse=>simp at h
  case isTrue hr=>
   obtain⟨h0,h1⟩:=xk hr;simp only[aa]at h;obtain⟨sz,eg,h⟩:=h;obtain⟨ad,rfl,hq⟩:=Du h hp;refine⟨_,?_,hq⟩;simp[Instr.indexAt,asIntOf,run_underlying hu,Instr.sureAddr,h0,h1,Ld eg]
 ·rename_i e hu;split at h
  ·rename_i b r len;split at h
   case isFalse=>simp at h
   case isTrue hr=>
    simp only[aa]at h;obtain⟨m,hm,h⟩:=h;split at h
    case isFalse=>simp at h
    case isTrue hn=>
    simp at h;subst h;obtain⟨h0,h1⟩:=xk hr;have bz:Cb g w (.sl b r len) pv:=hp;cases bz with
    |sl _ _ _ cap hd hle ez=>
     obtain⟨e1,e2⟩:=pR hw hd hm.symm;refine⟨_,?_,Cb.ptr b (r+n.toNat) 0 hd⟩;have:(r+n.toNat) * m=r * m+n.toNat * m:=Nf _ _ _;simp[Instr.indexAt,asIntOf,run_underlying hu,h0,h1,Ld hn,Vg,e1,this,Zf]
    |sR=>omega
  ·rename_i sz rows;split at h
   case isFalse=>simp at h
   case isTrue hr=>
    split at h
    case isFalse=>simp at h
    case isTrue eg=>
    obtain⟨h0,h1⟩:=xk hr;simp only[ja]at h;obtain⟨row,De,rfl⟩:=h;have bz:Cb g w (.lit sz rows) pv:=hp;cases bz with
    |lits _ ad=>simp at h1;omega
    |lit _ ad cap _ vs hs hc hz hl ei h1c hrel=>
     have hi:n.toNat<rows.length:=by omega
     have aD:=hl _ _ De;refine⟨.pointer (some (ad.add (n.toNat * sz))),?_,?_⟩
     ·simp[Instr.indexAt,asIntOf,run_underlying hu,h0,h1,Ld eg]
     ·rw[Zl hs,Vg];refine Cb.ee row ⟨ad.block,ad.off+n.toNat * sz,none⟩ (vs n.toNat) rfl (hz (by intro e;subst e;simp at hi)).1 (λc Gn=>ei _ c hi (by omega)) (λc Gn=>h1c _ c hi (by omega)) (λc x hx=>hrel _ row c x De hx)
  ·simp at h
 ·simp at h
end
end Go.V
namespace Go.V
open Go
variable [Inhabited Rn]
theorem cH(off:Nat):∀(l:List Value)(st:Nat)(cells:Array Value),
  ((l.zipIdx st).foldl (λcs p=>cs.setIfInBounds (off+p.2) p.1) cells).size=cells.size/\
  ∀k,((l.zipIdx st).foldl (λcs p=>cs.setIfInBounds (off+p.2) p.1) cells)[k]?=if off+st<=k/\k<off+st+l.length/\k<cells.size then l[k-(off+st)]? else cells[k]?
 |[],st,cells=>⟨rfl,λk=>by rw[if_neg (by simp;omega)];rfl⟩
 |v::l,st,cells=>by
  obtain⟨h1,h2⟩:=cH off l (st+1) (cells.setIfInBounds (off+st) v);simp only[List.zipIdx_cons,List.foldl_cons];refine⟨by simpa using h1,λk=> ?_⟩;rw[h2 k];simp only[Array.size_setIfInBounds,Array.getElem?_setIfInBounds,List.length_cons];by_cases hk:off+st=k
  ·subst hk;rw[if_neg (by omega)];by_cases hs:off+st<cells.size
   ·simp[hs]
   ·rw[if_pos rfl];simp[hs,wF (Nat.le_of_not_lt hs)]
  ·rw[if_neg hk];by_cases hr:off+(st+1)<=k/\k<off+(st+1)+l.length/\k<cells.size
   ·rw[if_pos hr,if_pos (by omega),show k-(off+st)=(k-(off+(st+1)))+1 by omega,Zi]
   ·rw[if_neg hr,if_neg (by omega)]
theorem KA(off:Nat)(vs cells:Array Value)(h:off+vs.size<=cells.size):
  vs.zipIdx.foldl (λcs(c,j)=>cs.setIfInBounds (off+j) c) cells=(cells.toList.take off++vs.toList++cells.toList.drop (off+vs.size)).toArray:=by
 have e:vs.zipIdx.foldl (λcs(c,j)=>cs.setIfInBounds (off+j) c) cells=(vs.toList.zipIdx 0).foldl (λcs p=>cs.setIfInBounds (off+p.2) p.1) cells:=by
  rw[<- Array.foldl_toList,Array.toList_zipIdx]
 rw[e];obtain⟨h1,h2⟩:=cH off vs.toList 0 cells;apply Array.ext_getElem?;intro k;rw[h2 k];simp only[qd,Je,ug,Gf];by_cases hk:k<off
 ·rw[if_neg (by omega),Ja (by simp;omega),Jb,if_pos hk];simp
 ·have ht:(cells.toList.take off).length=off:=by simp;omega
  rw[Oa (by omega),ht];by_cases q_:k<off+vs.size
  ·rw[if_pos (by omega),Ja (by simp;omega)]
  ·rw[if_neg (by omega),Oa (by simp;omega),Lc,Gf,show off+vs.size+(k-off-vs.size)=k by omega];simp
section
variable {A:Oi}{g:Gx}{f:Fx}{w:World}{s:S}{a:Act}
def Ay(g:Gx)(w:World)(cs:List AV)(vs:Array Value):Prop:=vs.size=cs.length/\Lf g w vs 0 cs
theorem Ay.agg{cs:List AV}{vs:Array Value}(h:Ay g w cs vs):Cb g w (.agg cs) (.agg vs):=by
 have hv:vs=vs.toList.toArray:=by simp
 rw[hv];refine .agg cs vs.toList (by simpa using h.1) (λu hu=> ?_) (λi x v hx hi=> ?_)
 ·obtain⟨i,hi⟩:=Ve hu;have Mc:i<cs.length:=by have:=h.1;rcases dc i vs.toList.length with h'|h';simp at h';omega;simp[Nb h']at hi
  obtain⟨v,h1,h2,_⟩:=h.2 i cs[i] (Da Mc);simp at h1 hi;rw[h1]at hi;simp at hi;subst hi;exact h2
 ·obtain⟨v',h1,_,h3⟩:=h.2 i x hx;simp at h1 hi;rw[h1]at hi;simp at hi;subst hi;exact h3
theorem qi{cs:List AV}{v:Value}(h:Cb g w (.agg cs) v):∃vs,v= .agg vs/\Ay g w cs vs:=by
 cases h with
 |agg _ vs hl h1 hr=>exact⟨_,rfl,by simpa using hl,qm (by simpa using hl) (by simpa using h1) (by simpa using hr)⟩
theorem Gy{t:TypeId}{z:List AV}(h:zero A t=some z):∃v,(zeroValue t).run A.P w= .ok v w/\Ay g w z v.cells:=by
 obtain⟨v,h1,h2,h3,h4⟩:=mC (g:=g) (w:=w) h;exact⟨v,h1,h2,qm h2 h3 h4⟩
theorem Tj{t:TypeId}{cs:List AV}{vs:Array Value}{off:Nat}{x:AV}(h:part A t cs off=some x)(hr:Ay g w cs vs):∃v,(Go.part t vs off).run A.P w= .ok v w/\Cb g w x v:=by
 unfold part at h;cases MI:isAgg A t with
 |none=>simp[MI]at h
 |some b=>
  simp only[MI,da]at h;cases b with
  |true=>
   simp only[aa]at h;obtain⟨n,hn,h⟩:=h;split at h
   case isFalse=>simp at h
   case isTrue hle=>
    simp at h;subst h;have eg:=hr.1;refine⟨.agg (vs.extract off (off+n)),by simp[Go.part,Ks MI,Ld hn],Ay.agg ⟨by simp;omega,λc x hx=> ?_⟩⟩;rw[Jb]at hx;split at hx
    case isFalse=>simp at hx
    case isTrue hc=>
     rw[Lc]at hx;obtain⟨v,e1,e2,e3⟩:=hr.2 _ x hx;refine⟨v,?_,e2,e3⟩;rw[Qf]at e1 ⊢;rw[Array.getElem?_extract,if_pos (by omega)];exact e1
  |false=>
   simp only at h;obtain⟨v,e1,e2,e3⟩:=hr.2 off x h;rw[Qf]at e1;exact⟨v,by simp[Go.part,Ks MI,e1],e3⟩
def eA(g:Gx)(w:World):List (Nat×AV)->List (Nat×Value)->Prop
 |[],[]=>True
 |(i,x)::l,(j,v)::m=>i=j/\Cb g w x v/\eA g w l m
 |_,_=>False
theorem Xq:∀{ps:List (Nat×Operand)}{l:List (Nat×AV)},parts A s.e ps=some l->Jc A.Na g w s.H->Mf g f w s.e a.tmps->eA g w l (ps.map λ(i,x)=>(i,a.eval x))
 |[],l,h,_,_=>by simp[parts]at h;subst h;trivial
 |(i,x)::ps,l,h,hw,he=>by
  simp only[parts,aa]at h;obtain⟨av,A_,l',Fg,h⟩:=h;simp at h;subst h;exact⟨rfl,Fc A_ hw he,Xq Fg hw he⟩
theorem jv{place:Nat->Option (Nat×Nat)}:∀{l:List (Nat×AV)}{m:List (Nat×Value)}{row Vb:List AV}{cells:Array Value},Lg place row l=some Vb->eA g w l m->Ay g w row cells->
  ∃fh,Instr.fill place cells m=some fh/\Ay g w Vb fh
 |[],[],row,Vb,cells,h,_,hr=>by simp[Lg]at h;subst h;exact⟨cells,rfl,hr⟩
 |(i,x)::l,(j,v)::m,row,Vb,cells,h,hp,hr=>by
  obtain⟨rfl,hx,hp⟩:=hp;simp only[Lg,aa]at h;obtain⟨⟨off,n⟩,TL,cs,Kj,h⟩:=h;simp only at h;split at h
  case isFalse=>simp at h
  case isTrue hn=>
   simp only[aa]at h;obtain⟨vp,qg,h⟩:=h;obtain⟨c1,c2,c3⟩:=kn Kj hx;have dW:off+cs.length<=row.length:=by unfold gg at qg;split at qg;assumption;simp at qg
   have eg:=hr.1;obtain⟨Fg,Gl⟩:=lp (vs:=v.cells.toList) qg (by simpa using c1) hr.2 c2 c3 (by omega);simp only[Qf]at Gl;have Nw:=KA off v.cells cells (by omega);obtain⟨fh,e1,e2⟩:=jv (cells:=v.cells.zipIdx.foldl (λcs(c,j)=>cs.setIfInBounds (off+j) c) cells) h hp (by
    rw[Nw];refine⟨?_,by simpa using Gl⟩;simp only[Lv,oe,je,List.length_drop,Gf];omega)
   refine⟨fh,?_,e2⟩;simp only[Instr.fill,TL];rw[if_neg (by simp;omega)];exact e1
 |[],_::_,_,_,_,_,hp,_=>hp.elim
 |_::_,[],_,_,_,_,hp,_=>by cases ‹Nat×AV›;exact hp.elim
theorem nu{α β:Type}(P:Program)(w:World)(fn:α->Sem β)(p:α->Option β):∀l:List α,(∀x∈l,∃y,p x=some y/\(fn x).run P w= .ok y w)->
  ∃ys:List β,(l.mapM fn).run P w= .ok ys w/\∀i:Nat,ys[i]?=l[i]?.bind p
 |[],_=>⟨[],by simp,λi=>by simp⟩
 |x::l,h=>by
  obtain⟨y,h1,h2⟩:=h x (by simp);obtain⟨ys,h3,h4⟩:=nu P w fn p l (λz hz=>h z (by simp[hz]));refine⟨y::ys,by simp[List.mapM_cons,h2,h3],λi=> ?_⟩;cases i with
  |zero=>simp[h1]
  |succ i=>simpa using h4 i
end
end Go.V
namespace Go.V
open Go
variable [Inhabited Rn]
section
variable {A:Oi}{g:Gx}{f:Fx}{w:World}{s:S}{a:Act}
theorem tN{t:TypeId}{l:List (Nat×AV)}{m:List (Nat×Value)}{x:AV}(h:build A t l=some x)(hp:eA g w l m):
  ∃v,(Instr.build t m.toArray).run A.P w= .ok v w/\Cb g w x v:=by
 unfold build at h;simp only[aa]at h;obtain⟨z,hz,h⟩:=h;obtain⟨zv,TX,hza⟩:=Gy (g:=g) (w:=w) hz;split at h
 ·rename_i fs hu;split at h
  case isFalse=>simp at h
  case isTrue qj=>
   simp only[ja]at h;obtain⟨row,De,rfl⟩:=h;obtain⟨ps,ue,cD⟩:=nu A.P w (λf:Field=>do pure (f.offset,<- sizeOf f.type)) (λf=>(size A f.type).map λn=>(f.offset,n)) fs.toList (λfd dM=>by
    have:=ec.1 qj fd dM;cases hn:size A fd.type with
    |none=>simp[hn]at this
    |some n=>exact⟨(fd.offset,n),by simp,by simp[Ld hn]⟩)
   have Laf:(λi:Nat=>ps.toArray[i]?)=λi:Nat=>fs[i]?.bind λf:Field=>(size A f.type).map λn=>(f.offset,n):=by
    funext i
    simpa using cD i
   rw[<- Laf]at De;obtain⟨fh,e1,e2⟩:=jv De hp hza;refine⟨.agg fh,?_,e2.agg⟩;have Cam:(fs.mapM (λf:Field=>do pure (f.offset,<- sizeOf f.type))).run A.P w= .ok ps.toArray w:=by
    rw[Array.mapM_eq_mapM_toList];simp only[Sem.run_map,ue,Result.andThen_ok]
   simp only[Instr.build,Sem.run_bind,TX,Result.andThen_ok,run_underlying hu,Cam,List.toList_toArray,e1];rfl
 ·rename_i n e hu;simp only[aa,ja]at h;obtain⟨sz,eg,row,De,rfl⟩:=h;obtain⟨fh,e1,e2⟩:=jv De hp hza;refine⟨.agg fh,?_,e2.agg⟩;simp only[Instr.build,Sem.run_bind,TX,Result.andThen_ok,run_underlying hu,Ld eg,List.toList_toArray,e1];rfl
 ·simp at h
theorem Qt{t e:TypeId}(h:elem? A t=some e):A.P.underlying t=some (.slice e):=by
 unfold elem? at h;split at h
 ·rename_i e' hu;simp at h;subst h;exact hu
 ·simp at h
def Gk(g:Gx)(w:World)(sz:Nat)(rows:List (List AV))(cs:Array Value):Prop:=
 rows.length * sz<=cs.size/\∀(r:Nat)(row:List AV),rows[r]?=some row->row.length=sz/\Lf g w cs (r * sz) row
theorem nA{ty:Option (TypeId×Nat)}{rows:List (List AV)}{sz:Nat}{cs:Array Value}{t:TypeId}{fz:Nat×Nat}{w':World}{v:AV}{rv:Value}{r:Result Next}(hw:Jc A.Na g w s.H)(hf:ze g f w s.H s.F)(fg:0<sz)(hr:Gk g w sz rows cs)
  (CA:w'.heap=w.heap.push (.cells cs t fz)) (Tn:∀ off,off<cs.size->¬(fz.1<=off/\off<fz.2))
  (hv:Cb (g.add s.H.bl.length ⟨w.heap.size,0,cs.size,sz⟩) w' v rv) (ue:r= .ok (.value rv) w') (V8:ty=some (t,1)\/ty=none) (OB:w'.os=w.os/\w'.output=w.output:=by first|exact⟨rfl,rfl⟩|assumption):
  HN A.Na g f w s { s with H:=push s.H (.cells rows sz ty) } (.v v) r:=by
 have Mc:w.heap.size<w'.heap.size:=by rw[CA];simp
 have Ae:∀R,R<w.heap.size->w'.heap[R]?=w.heap[R]?:=λR hR=>by rw[CA];simp[Array.getElem?_push,Nat.ne_of_lt hR]
 have hzn:¬g.Z w.heap.size:=λhz=>Nat.lt_irrefl _ (hw.O8 hz)
 obtain⟨q1,q2,q3⟩:=Vs (l:=⟨w.heap.size,0,cs.size,sz⟩) (x:= .cells rows sz ty) hw hf (js Mc) rfl Mc Ae (λhle=>
  ⟨by
   rcases V8 with rfl|rfl
   ·exact⟨⟨cs,fz,by rw[CA];simp⟩,λ_=>rfl,λh=>by omega⟩
   ·trivial,fg,rfl,by simpa using hr.1,cs,⟨t,fz,by rw[CA];simp,rfl,Tn,hzn⟩,λr row De=>⟨(hr.2 r row De).1,by simpa using(hr.2 r row De).2.mono hle⟩⟩)
 exact⟨rv,w',_,f,.inl ue,q1,q2,q3,hv⟩
theorem Ou{rows:List (List AV)}{sz:Nat}{cs:Array Value}{t:TypeId}{fz:Nat×Nat}{w':World}{v:AV}{rv:Value}{r:Result Next}(hw:Jc A.Na g w s.H)(hf:ze g f w s.H s.F)(fg:0<sz)(hr:Gk g w sz rows cs)
  (CA:w'.heap=w.heap.push (.cells cs t fz)) (Tn:∀ off,off<cs.size->¬(fz.1<=off/\off<fz.2))
  (hv:Cb (g.add s.H.bl.length ⟨w.heap.size,0,cs.size,sz⟩) w' v rv) (ue:r= .ok (.value rv) w') (OB:w'.os=w.os/\w'.output=w.output:=by first|exact⟨rfl,rfl⟩|assumption):
  HN A.Na g f w s { s with H:=push s.H (.cells rows sz (some (t,1))) } (.v v) r:=
 nA hw hf fg hr CA Tn hv ue (.inl rfl)
theorem getElem?_lt'{α:Type}{l:List α}{i:Nat}{x:α}(h:l[i]?=some x):i<l.length:=by
 rcases dc i l.length with h'|h'
 ·exact h'
 ·simp[Nb h']at h
theorem tG{z:List AV}{zv:Array Value}(n m:Nat)(h:Ay g w z zv)(fg:0<z.length)(hnm:n<=m):Gk g w z.length (fb n z) ((Fu (m * z.length)).map (zv[· %zv.size]!)):=by
 have eg:=h.1;refine⟨by simp;exact Vc _ hnm,λr row hr=> ?_⟩;rw[Gi]at hr;split at hr
 case isFalse=>simp at hr
 case isTrue hrn=>
  simp at hr;subst hr;refine⟨rfl,λc x hx=> ?_⟩;obtain⟨v,e1,e2,e3⟩:=h.2 c x hx;rw[Qf]at e1;have hc:=getElem?_lt' hx;refine⟨v,?_,e2,e3⟩;have Mc:r * z.length+c<m * z.length:=Ah (by omega) hc;have NZ:(r * z.length+c)%zv.size=c:=by rw[eg,Nat.mul_comm,Nat.mul_add_mod,Nat.mod_eq_of_lt hc]
  simp only[Array.getElem?_map,Array.getElem?_range,if_pos Mc,Yd,NZ];simp only[Array.getElem!_eq_getD,ij,e1,Option.getD_some]
theorem Um{x:AV}{n:Int}{v:Value}(h:toInt x=some n)(hx:Cb g w x v):∃k,v= .int k n:=by
 unfold toInt at h;split at h
 ·simp at h;subst h;cases hx;exact⟨_,rfl⟩
 ·simp at h
theorem lF{t:TypeId}{n:Nat}(h:bytes A t=some n):∃i,A.P.info? t=some i/\i.bytes=n:=by
 unfold bytes at h
 simpa using h
theorem wrap_small{n:Int}(h0:0<=n)(h1:n<9223372036854775808):IntKind.i64.wrap n=n:=by
 unfold IntKind.wrap;simp[IntKind.bits,IntKind.signed];omega
theorem vq{o8:List (List AV)}{sz:Nat}:∀{l:List (Nat×AV)}{m:List (Nat×Value)}{rows Ke:List (List AV)}{cells:Array Value},If rows l=some Ke->eA g w l m->Gk g w sz rows cells->cells.size=rows.length * sz->
  ∃fh,Instr.fill (λi=>some (i * sz,sz)) cells m=some fh/\Gk g w sz Ke fh/\Ke.length=rows.length/\fh.size=cells.size
 |[],[],rows,Ke,cells,h,_,hr,_=>by simp[If]at h;subst h;exact⟨cells,rfl,hr,rfl,rfl⟩
 |(i,x)::l,(j,v)::m,rows,Ke,cells,h,hp,hr,Kj=>by
  obtain⟨rfl,hx,hp⟩:=hp;simp only[If,aa]at h;obtain⟨cs,Zar,row,De,h⟩:=h;split at h
  case isFalse=>simp at h
  case isTrue hlen=>
   obtain⟨c1,c2,c3⟩:=kn Zar hx;have hi:=getElem?_lt' De;obtain⟨aD,Gl⟩:=hr.2 i row De;have hmul:i * sz+sz<=rows.length * sz:=by rw[<- Lj];exact Vc _ hi
   have Nw:=KA (i * sz) v.cells cells (by omega);have gf:Lf g w (cells.toList.take (i * sz)++v.cells.toList++cells.toList.drop (i * sz+v.cells.size)).toArray (i * sz) cs:=by
    have qg:gg row 0 cs=some cs:=by
     unfold gg;rw[if_pos (by omega)];simp[List.drop_eq_nil_of_le,hlen]
    have:=(lp (base:=i * sz) (vs:=v.cells.toList) qg (by simpa using c1) Gl c2 c3 (by omega)).2
    simpa using this
   have eg:(cells.toList.take (i * sz)++v.cells.toList++cells.toList.drop (i * sz+v.cells.size)).toArray.size=cells.size:=by
    simp only[Lv,oe,je,List.length_drop,Gf];omega
   obtain⟨fh,e1,e2,e3,e4⟩:=vq (o8:=o8) (cells:=v.cells.zipIdx.foldl (λcs(c,j)=>cs.setIfInBounds (i * sz+j) c) cells) (rows:=rows.set i cs) h hp (by
    rw[Nw];refine⟨by rw[eg];simpa using hr.1,λr IY Eo=> ?_⟩;rw[Cc]at Eo;split at Eo
    ·rename_i e;subst e;simp[hi]at Eo;subst Eo;exact⟨by omega,gf⟩
    ·rename_i td;obtain⟨XL,Gaf⟩:=hr.2 r IY Eo;refine⟨XL,?_⟩;have:=gw (base:=i * sz) (lo:=i * sz) (vs:=v.cells.toList) Gaf (ya _) (by simp;omega) (by
      rcases By td with h|h
      ·right;have:i * sz+sz<=r * sz:=by rw[<- Lj];exact Vc _ h
       omega
      ·left;have:r * sz+sz<=i * sz:=by rw[<- Lj];exact Vc _ h
       omega) (by have:=hr.1;omega)
     simpa using this) (by rw[Nw,eg,Kj];simp)
   rw[Nw,eg]at e4;refine⟨fh,?_,e2,by simpa using e3,e4⟩;simp only[Instr.fill];rw[if_neg (by simp;omega)];exact e1
 |[],_::_,_,_,_,_,hp,_,_=>hp.elim
 |_::_,[],_,_,_,_,hp,_,_=>by cases ‹Nat×AV›;exact hp.elim
end
end Go.V
namespace Go.V
open Go
variable [Inhabited Rn]
section
variable {A:Oi}{g:Gx}{f:Fx}{w:World}{s:S}{a:Act}
theorem Vm{w:World}{MC Mk:Nat}{e:TypeId}(h:MC<=9223372036854775807):grownCap w MC Mk e<=9223372036854775807:=by
 have:=Nat.mod_lt (w.tape w.drawn (.appendCap MC Mk e)) (show 2^63-MC>0 by omega);show MC+w.tape w.drawn (.appendCap MC Mk e)%(2^63-MC)<=_;omega
theorem Xn{g:Gx}{w:World}{b n cap e sz R:Nat}(hn:n<=cap)(he:cap * sz<=e)(hm:cap<=9223372036854775807):Cb (g.add b ⟨R,0,e,sz⟩) w (.sl b 0 n) (.slice (some ⟨R,0,none⟩) n cap):=by
 have:=Cb.sl (g:=g.add b ⟨R,0,e,sz⟩) (w:=w) b 0 n cap (.inr rfl) hn (by rw[Ng];simpa using he) hm
 simpa[Ng]using this
theorem aA{t:TypeId}{n:Nat}{l:List (Nat×AV)}{m:List (Nat×Value)}{x:AV}{H':AH}{r:Result Next}(h:buildSlice A s.H t n l=some (x,H'))(hw:Jc A.Na g w s.H)(hf:ze g f w s.H s.F)(hp:eA g w l m)
  (ue:r=((do pure (.value (<- Instr.buildSlice t n m.toArray))):Sem Next).run A.P w):HN A.Na g f w s { s with H:=H' } (.v x) r:=by
 unfold buildSlice at h;simp only[aa]at h;obtain⟨e,he,z,hz,h⟩:=h;split at h
 case isFalse=>simp at h
 case isTrue hc=>
  obtain⟨hc1,fg,eg⟩:=hc;have hu:=Qt he;split at h
  ·rename_i h00;obtain⟨rfl,OO⟩:=h00;simp at h;obtain⟨rfl,rfl⟩:=h;have hl:l=[]:=Xt OO;subst hl;cases m with
   |cons _ _=>exact hp.elim
   |nil=>
   obtain⟨q1,q2,q3⟩:=Ru (w':=w.alloc (.cells #[] e)) hw hf (by show w.heap.size<=(w.heap.push _).size;simp) (λR hR=>heap_alloc_old w _ R hR);refine⟨.slice (some ⟨w.heap.size,0,none⟩) 0 0,w.alloc (.cells #[] e),g,f,.inl ?_,q1,q2,q3,.Ef _⟩;rw[ue];have h0:0 * z.length=0:=Nat.zero_mul _;have i_:∀q:Nat->Value,(Fu 0).map q= #[]:=λq=>by apply Oh;simp
   simp only[Instr.buildSlice,Sem.run_bind,run_underlying hu,Result.andThen_ok,Ld eg,h0,if_neg (show ¬0>2^24 by decide),if_true,Sem.run_pure,List.toList_toArray,Instr.fill,i_,newRow,run_newObj];rfl
  simp only[aa]at h;obtain⟨rows,de,h⟩:=h;simp at h;obtain⟨rfl,rfl⟩:=h;obtain⟨zv,TX,hza⟩:=Gy (g:=g) (w:=w) hz;obtain⟨q,hq1,hq2⟩:∃q:Array Value,((n * z.length=0/\q= #[])\/(¬n * z.length=0/\q=zv.cells))/\Gk g w z.length (fb n z) ((Fu (n * z.length)).map (q[· %q.size]!)):=by
   by_cases hn:n=0
   ·subst hn;exact⟨#[],.inl ⟨by simp,rfl⟩,by simp,λr row hr=>by simp at hr⟩
   ·have:¬n * z.length=0:=by
     intro h0;rcases Nat.mul_eq_zero.1 h0 with h0|h0<;>omega
    exact⟨zv.cells,.inr ⟨this,rfl⟩,tG n n hza fg (ya _)⟩
  obtain⟨fh,e1,e2,e3,e4⟩:=vq (o8:=[]) de hp hq2 (by simp);have Kj:fh.size=n * z.length:=by rw[e4];simp
  have hlen:rows.length=n:=by rw[e3];simp
  refine Ou (cs:=fh) (t:=e) (fz:=(0,0)) (w':=w.alloc (.cells fh e)) hw hf fg e2 rfl (λoff _=>by simp) (rv:= .slice (some ⟨w.heap.size,0,none⟩) n n) (Xn (ya _) (by omega) (by have:=Nat.le_mul_of_pos_right n fg;omega)) ?_;rw[ue];have k_:¬n * z.length>2^24:=by omega
  rcases hq1 with⟨hn,rfl⟩|⟨hn,rfl⟩
  ·simp only[Instr.buildSlice,Sem.run_bind,run_underlying hu,Result.andThen_ok,Ld eg,if_neg k_,if_pos hn,e1,newRow,run_newObj,Sem.run_pure];rfl
  ·simp only[Instr.buildSlice,Sem.run_bind,run_underlying hu,Result.andThen_ok,Ld eg,if_neg k_,if_neg hn,TX,e1,newRow,run_newObj,Sem.run_pure];rfl
theorem qB{t:TypeId}{x y v:AV}{xv yv:Value}{H':AH}{r:Result Next}(h:makeSlice A s.H t x y=some (v,H'))(hw:Jc A.Na g w s.H)(hf:ze g f w s.H s.F)(hx:Cb g w x xv)(hy:Cb g w y yv)
  (ue:r=((do pure (.value (<- Instr.makeSlice t xv yv))):Sem Next).run A.P w):HN A.Na g f w s { s with H:=H' } (.v v) r:=by
 unfold makeSlice at h;split at h
 case h_2=>simp at h
 case h_1 k1 l k2 c=>
 simp only[aa]at h;obtain⟨e,he,z,hz,n,hn,h⟩:=h;split at h
 case isFalse=>simp at h
 case isTrue hc=>
  obtain⟨h0,h1,h2,h3,fg,eg⟩:=hc;simp at h;obtain⟨rfl,rfl⟩:=h;cases hx;cases hy;have hu:=Qt he;obtain⟨i,hi,hib⟩:=lF hn;obtain⟨zv,TX,hza⟩:=Gy (g:=g) (w:=w) hz;have wl:=wrap_small (n:=l) h0 (by omega);have wc:=wrap_small (n:=c) (by omega) h3;obtain⟨q,hq1,hq2⟩:∃q:Array Value,((c.toNat * z.length=0/\q= #[])\/(¬c.toNat * z.length=0/\q=zv.cells))/\Gk g w z.length (fb l.toNat z) ((Fu (c.toNat * z.length)).map (q[· %q.size]!)):=by
   by_cases hn:c.toNat=0
   ·have:l.toNat=0:=by omega
    rw[hn,this];exact⟨#[],.inl ⟨by simp,rfl⟩,by simp,λr row hr=>by simp at hr⟩
   ·have:¬c.toNat * z.length=0:=by
     intro h0;rcases Nat.mul_eq_zero.1 h0 with h0|h0<;>omega
    exact⟨zv.cells,.inr ⟨this,rfl⟩,tG l.toNat c.toNat hza fg (by omega)⟩
  refine Ou (cs:=(Fu (c.toNat * z.length)).map (q[· %q.size]!)) (t:=e) (fz:=(0,0)) (w':=w.alloc (.cells ((Fu (c.toNat * z.length)).map (q[· %q.size]!)) e)) hw hf fg hq2 rfl (λoff _=>by simp) (rv:= .slice (some ⟨w.heap.size,0,none⟩) l.toNat c.toNat) (Xn (by omega) (by simp) (by omega)) ?_;rw[ue];have t1:(decide (c<0)||decide ((i.bytes:Int) * c>2^48))=false:=by
   rw[hib];simp;omega
  have t2:¬(l<0):=by omega
  have t3:¬(l>c):=by omega
  rcases hq1 with⟨hn,rfl⟩|⟨hn,rfl⟩
  ·simp only[Instr.makeSlice,Sem.run_bind,run_underlying hu,Result.andThen_ok,asInt,asIntOf,Sem.run_pure,typeInfo,run_program,hi,wl,wc,t1,decide_eq_false t2,decide_eq_false t3,Bool.or_false,Xb,if_false,run_askRoom,Ld eg,if_pos hn,newRow,run_newObj];rfl
  ·simp only[Instr.makeSlice,Sem.run_bind,run_underlying hu,Result.andThen_ok,asInt,asIntOf,Sem.run_pure,typeInfo,run_program,hi,wl,wc,t1,decide_eq_false t2,decide_eq_false t3,Bool.or_false,Xb,if_false,run_askRoom,Ld eg,if_neg hn,TX,newRow,run_newObj];rfl
end
end Go.V
