/- A second evaluator, over rows of Lean values, and that it is right over the first. -/
import Derived.Test.YtjenflkegbmkkaaGreatDoorA1
import Derived.Test.YtjenflkegbmkkaaGreatDoorA4
set_option linter.unusedVariables false
set_option linter.unusedSimpArgs false
set_option linter.unusedSectionVars false
namespace Go.U
open Go
inductive CT where
 |bool
 |int (k:IntKind)
 |str
 |slice (c:CT)
 |pair (a b:CT)
 deriving DecidableEq,Inhabited
def CellT:CT->Type
 | .bool=>Bool
 | .int _=>Int
 | .str=>ByteArray
 | .slice c=>List (CellT c)
 | .pair a b=>CellT a×CellT b
def width:CT->Nat
 | .pair a b=>width a+width b
 |_=>1
def dflt:(c:CT)->CellT c
 | .bool=>false
 | .int _=>(0:Int)
 | .str=>ByteArray.empty
 | .slice _=>[]
 | .pair a b=>(dflt a,dflt b)
inductive KT where
 |int (k:IntKind)
 |str
 deriving DecidableEq,Inhabited
def KeyT:KT->Type
 | .int _=>Int
 | .str=>ByteArray
def eqK:(k:KT)->KeyT k->KeyT k->Bool
 | .int _=>fun (a b:Int)=>decide (a=b)
 | .str=>fun (a b:ByteArray)=>a==b
inductive UV where
 |junk
 |bool (b:Bool)
 |int (k:IntKind) (n:Int)
 |str (s:ByteArray)
 |nilp
 |ptr (b c:Nat)
 |pel (b r c:Nat)
 |eptr (row:List UV)
 |nils
 |emp
 |sl (b r n:Nat)
 |all (b:Nat)
 |dsl (b r:Nat)
 |dpl (b r j c:Nat)
 |lit (c:CT) (l:List (CellT c))
 |nilm
 |mp (b:Nat)
 |nilf
 |fn (f:FuncId) (caps:List UV)
 |yl (b:Nat)
 |nili
 |agg (cells:List UV)
 |tup (vs:List UV)
 deriving Inhabited
inductive UB where
 |dead
 |opn (row:List UV)
 |cells (c:CT) (l:List (CellT c))
 |deep (c:CT) (l:List (List (CellT c)))
 |mapL (k:KT) (es:List (KeyT k×UV))
 |mapT (k:KT) (g:Bool) (c:CT) (l:List (KeyT k×CellT c))
 |loop (id:Nat) (env:List (Nat×UV)) (st:LoopState) (pe:V.Ex)
 |bld (q:UV)
 |byt (s:ByteArray)
 deriving Inhabited
structure RFn where
 n:Nat
 ps:List Nat
 assign:Code
 body:Code
class Tbl where
 rf:Nat->RFn
 bT:TypeId
 uT:TypeId
structure UH where
 bl:List UB
 wm:Nat
inductive US where
 |v (a:UV)
 |loc (i c:Nat)
structure St where
 e:List (Nat×US)
 F:List (List UV)
 H:UH
 base:Nat
def fN {α:Type} (n:Nat) (k:Nat->α):α:=match n with|0=>k 0|m+1=>k (m+1)
def fL {α β:Type} (l:List β) (k:List β->α):α:=match l with|[]=>k []|x::xs=>fL xs fun xs=>k (x::xs)
def fV {α:Type} (v:UV) (k:UV->α):α:=
 match v with
 | .junk=>k .junk
 | .bool b=>k (.bool b)
 | .int t n=>k (.int t n)
 | .str s=>k (.str s)
 | .nilp=>k .nilp
 | .ptr b c=>fN b fun b=>fN c fun c=>k (.ptr b c)
 | .pel b r c=>fN b fun b=>fN c fun c=>k (.pel b r c)
 | .eptr row=>fL row fun row=>k (.eptr row)
 | .nils=>k .nils
 | .emp=>k .emp
 | .sl b r n=>fN b fun b=>k (.sl b r n)
 | .all b=>fN b fun b=>k (.all b)
 | .dsl b r=>fN b fun b=>k (.dsl b r)
 | .dpl b r j c=>fN b fun b=>fN c fun c=>k (.dpl b r j c)
 | .lit c l=>k (.lit c l)
 | .nilm=>k .nilm
 | .mp b=>fN b fun b=>k (.mp b)
 | .nilf=>k .nilf
 | .fn f cs=>fL cs fun cs=>k (.fn f cs)
 | .yl b=>fN b fun b=>k (.yl b)
 | .nili=>k .nili
 | .agg cs=>fL cs fun cs=>k (.agg cs)
 | .tup vs=>fL vs fun vs=>k (.tup vs)
def fU {α:Type} (v:US) (k:US->α):α:=
 match v with
 | .v a=>fV a fun a=>k (.v a)
 | .loc i c=>fN i fun i=>fN c fun c=>k (.loc i c)
def fSt {α:Type} (s:St) (k:St->α):α:=
 match s with
 |⟨e,F,⟨bl,wm⟩,base⟩=>fL F fun F=>fL bl fun bl=>fN wm fun wm=>fN base fun base=>(match e with|[]=>k ⟨[],F,⟨bl,wm⟩,base⟩|x::l=>k ⟨x::l,F,⟨bl,wm⟩,base⟩)
theorem fN_eq {α:Type} (n:Nat) (k:Nat->α):fN n k=k n:=by cases n<;>rfl
theorem fL_eq {α β:Type}:∀ (l:List β) (k:List β->α),fL l k=k l
 |[],_=>rfl
 |x::xs,k=>by simp only [fL,fL_eq xs]
theorem fV_eq {α:Type} (v:UV) (k:UV->α):fV v k=k v:=by cases v<;>simp only [fV,fN_eq,fL_eq]
theorem fU_eq {α:Type} (v:US) (k:US->α):fU v k=k v:=by cases v<;>simp only [fU,fV_eq,fN_eq]
theorem fSt_eq {α:Type} (s:St) (k:St->α):fSt s k=k s:=by
 obtain ⟨e,F,⟨bl,wm⟩,base⟩:=s;simp only [fSt,fN_eq,fL_eq];cases e<;>rfl
def enc:(c:CT)->CellT c->List UV
 | .bool,b=>[.bool b]
 | .int k,n=>[.int k n]
 | .str,s=>[.str s]
 | .slice c,l=>[.lit c l]
 | .pair a b,(x,y)=>enc a x++enc b y
def dec:(c:CT)->List UV->Option (CellT c×List UV)
 | .bool,.bool b::r=>some (b,r)
 | .int k,.int k' n::r=>if k'=k then some (n,r) else none
 | .str,.str s::r=>some (s,r)
 | .slice c,.lit c' l::r=>if h:c'=c then some (h ▸ l,r) else none
 | .slice _,.nils::r=>some ([],r)
 | .slice _,.emp::r=>some ([],r)
 | .pair a b,cs=>(dec a cs).bind fun (x,r)=>(dec b r).bind fun (y,r')=>some ((x,y),r')
 |_,_=>none
def dec1 (c:CT) (cs:List UV):Option (CellT c):=
 match dec c cs with
 |some (x,[])=>some x
 |_=>none
def decL (c:CT):List (List UV)->Option (List (CellT c))
 |[]=>some []
 |r::rs=>(dec1 c r).bind fun x=>(decL c rs).bind fun l=>some (x::l)
def vw (c:CT) (l:List (CellT c)):Nat->List UV:=fun i=>enc c (l.getD i (dflt c))
def bytL (s:ByteArray):List Int:=s.data.toList.map fun b=>(b.toNat:Int)
def byts (l:List Int):ByteArray:=⟨(l.map fun n=>UInt8.ofNat n.toNat).toArray⟩
def cutL {α:Type} (r n:Nat) (l:List α):List α:=
 match r with
 |0=>l.take n
 |r+1=>(l.drop (r+1)).take n
def cpyL {α:Type} (r m:Nat) (g l:List α):List α:=l.take r++(g.take m++l.drop (r+m))
def valOf (g:Bool) (c:CT) (x:CellT c):UV:=
 match g,enc c x with
 |true,cs=> .agg cs
 |false,[v]=>v
 |_,_=> .junk
def keyOf? (k:KT):UV->Option (KeyT k):=
 match k with
 | .int k=>fun| .int k' n=>if k'=k then some n else none|_=>none
 | .str=>fun| .str s=>some s|_=>none
def hasT {k:KT} {α:Type} (i:KeyT k) (l:List (KeyT k×α)):Bool:=l.any fun p=>eqK k i p.1
def getT {k:KT} {α:Type} (i:KeyT k) (d:α):List (KeyT k×α)->α
 |[]=>d
 |(j,x)::l=>cond (eqK k i j) x (getT i d l)
def setT {k:KT} {α:Type} (i:KeyT k) (x:α):List (KeyT k×α)->List (KeyT k×α)
 |[]=>[(i,x)]
 |(j,y)::l=>cond (eqK k i j) ((i,x)::l) ((j,y)::setT i x l)
def delT {k:KT} {α:Type} (i:KeyT k):List (KeyT k×α)->List (KeyT k×α)
 |[]=>[]
 |(j,y)::l=>cond (eqK k i j) l ((j,y)::delT i l)
def addN (r k:Nat):Nat:=match r with|0=>k|_=>r+k
def closed:Nat->UV->Bool
 |0,_=>false
 |_+1,.ptr .. |_+1,.pel .. |_+1,.sl .. |_+1,.all _|_+1,.dsl .. |_+1,.dpl .. |_+1,.mp _|_+1,.yl _|_+1,.junk|_+1,.agg _|_+1,.tup _=>false
 |d+1,.fn _ cs=>cs.all (closed d)
 |_+1,_=>true
def closedR:Nat->UV->Bool
 |0,_=>false
 |d+1,.agg cs=>cs.all (closedR d)
 |d+1,.tup cs=>cs.all (closedR d)
 |_+1,x=>closed 8 x
def get:List (Nat×US)->Nat->US
 |[],_=> .v .junk
 |(j,x)::e,i=>if i=j then x else get e i
def UV.cells?:UV->Option (List UV)
 | .agg cs=>some cs
 | .junk| .tup _=>none
 |x=>some [x]
def constUV:Value->Option UV
 | .bool b=>some (.bool b)
 | .int k n=>some (.int k n)
 | .string s=>some (.str s)
 | .pointer none=>some .nilp
 | .slice none 0 0=>some .nils
 | .map none=>some .nilm
 | .nilFunc=>some .nilf
 | .nilIface=>some .nili
 |_=>none
def constCells:List Value->Option (List UV)
 |[]=>some []
 |v::vs=>(constUV v).bind fun x=>(constCells vs).bind fun xs=>some (x::xs)
def ask {X:Type} (b:Bool) (x:Option X):Option X:=cond b x none
section
variable (A:V.Par) (glob:Nat->Option (List UV))
def zero (t:TypeId):Option (List UV):=
 match (A.P.info? t).map (·.zero) with
 |some (some v)=>constCells v.cells.toList
 |_=>none
def zeroV (t:TypeId):Option UV:=
 match (A.P.info? t).map (·.zero) with
 |some (some (Value.agg cs))=>(constCells cs.toList).map UV.agg
 |some (some v)=>constUV v
 |_=>none
def operand (e:List (Nat×US)):Operand->Option US
 | .tmp t=>some (get e t)
 | .const v=>(constUV v).map .v
 | .global g=>(glob g).map fun row=> .v (.eptr row)
 | .func f=>some (.v (.fn f []))
def val (e:List (Nat×US)) (x:Operand):Option UV:=
 match operand glob e x with
 |some (.v .junk)=>none
 |some (.v a)=>some a
 |_=>none
def vals (e:List (Nat×US)):List Operand->Option (List UV)
 |[]=>some []
 |x::xs=>(val glob e x).bind fun a=>(vals e xs).bind fun l=>some (a::l)
def splice (row:List UV) (c:Nat) (new:List UV):Option (List UV):=
 if c+new.length<=row.length then some (row.take c++(new++row.drop (c+new.length))) else none
def part (t:TypeId) (row:List UV) (c:Nat):Option UV:=
 (V.isAgg A t).bind fun
  |true=>(V.size A t).bind fun n=>if c+n<=row.length then some (.agg ((row.drop c).take n)) else none
  |false=>row[c]?
def setBl (H:UH) (b:Nat) (x:UB):UH:={ H with bl:=H.bl.set b x }
def push (H:UH) (x:UB):UH:={ H with bl:=H.bl++[x] }
def load (s:St) (t:TypeId):US->Option UV
 | .loc i c=>s.F[i]?.bind fun row=>part A t row c
 | .v (.ptr b c)=>match s.H.bl[b]? with|some (.opn row)=>part A t row c|_=>none
 | .v (.pel b r c)=>match s.H.bl[b]? with|some (.cells ct l)=>part A t (vw ct l r) c|some (.deep _ _)=>part A t [.dsl b r] c|_=>none
 | .v (.dpl b r j c)=>match s.H.bl[b]? with|some (.deep ct l)=>part A t (vw ct (l.getD r []) j) c|_=>none
 | .v (.eptr row)=>part A t row 0
 |_=>none
def store (s:St) (t:TypeId) (p:US) (x:UV):Option St:=
 x.cells?.bind fun cs=>(V.size A t).bind fun n=>
  if cs.length=n then
   match p with
   | .loc i c=>s.F[i]?.bind fun row=>(splice row c cs).bind fun row'=>fL row' fun row'=>some { s with F:=s.F.set i row' }
   | .v (.ptr b c)=>
    match s.H.bl[b]? with
    |some (.opn row)=>if s.H.wm<=b then (splice row c cs).bind fun row'=>fL row' fun row'=>some { s with H:=setBl s.H b (.opn row') } else none
    |_=>none
   | .v (.pel b r c)=>
    match s.H.bl[b]? with
    |some (.cells ct l)=>if s.H.wm<=b then (splice (vw ct l r) c cs).bind fun row'=>(dec1 ct row').bind fun x=>some { s with H:=setBl s.H b (.cells ct (l.set r x)) } else none
    |_=>none
   | .v (.dpl b r j c)=>
    match s.H.bl[b]? with
    |some (.deep ct l)=>if s.H.wm<=b then (splice (vw ct (l.getD r []) j) c cs).bind fun row'=>(dec1 ct row').bind fun x=>some { s with H:=setBl s.H b (.deep ct (l.set r ((l.getD r []).set j x))) } else none
    |_=>none
   |_=>none
  else none
def addCell (n:Nat):US->Option US
 | .loc i c=>some (.loc i (c+n))
 | .v (.ptr b c)=>some (.v (.ptr b (c+n)))
 | .v (.pel b r c)=>some (.v (.pel b r (c+n)))
 | .v (.dpl b r j c)=>some (.v (.dpl b r j (c+n)))
 | .v (.eptr row)=>some (.v (.eptr (row.drop n)))
 |_=>none
variable {X:Type}
def cases (i:Int) (K:Nat->Option X):Nat->Nat->Option X
 |0,_=>none
 |m+1,j=>cond (decide (i=(j:Int))) (K j) (cases i K m (j+1))
def indexAddr (H:UH) (t:TypeId) (x:US) (i:Int) (K:US->Option X):Option X:=
 match A.P.underlying t with
 |some (.array n e)=>(V.size A e).bind fun sz=>cases i (fun j=>(addCell (j * sz) x).bind K) n 0
 |some (.slice e)=>
  match x with
  | .v (.sl b r n)=>
   match H.bl[b]? with
   |some (.cells c _)=>if V.size A e=some (width c) then ask (V.inRange i n) (K (.v (.pel b (addN r i.toNat) 0))) else none
   |some (.deep _ _)=>if V.size A e=some 1 then ask (V.inRange i n) (K (.v (.pel b (addN r i.toNat) 0))) else none
   |_=>none
  | .v (.all b)=>
   match H.bl[b]? with
   |some (.cells c l)=>if V.size A e=some (width c) then ask (V.inRange i l.length) (K (.v (.pel b i.toNat 0))) else none
   |some (.deep _ l)=>if V.size A e=some 1 then ask (V.inRange i l.length) (K (.v (.pel b i.toNat 0))) else none
   |_=>none
  | .v (.dsl b r)=>
   match H.bl[b]? with
   |some (.deep c l)=>if V.size A e=some (width c) then ask (V.inRange i (l.getD r []).length) (K (.v (.dpl b r i.toNat 0))) else none
   |_=>none
  | .v (.lit c l)=>if V.size A e=some (width c) then ask (V.inRange i l.length) (K (.v (.eptr (vw c l i.toNat)))) else none
  |_=>none
 |_=>none
def index (t:TypeId) (x:UV) (i:Int) (K:UV->Option X):Option X:=
 match A.P.underlying t,x with
 |some (.array n e),.agg cs=>(V.size A e).bind fun sz=>cases i (fun j=>(part A e cs (j * sz)).bind K) n 0
 |some .string,.str s=>ask (V.inRange i s.size) (K (.int .u8 (s[i.toNat]!.toNat:Int)))
 |_,_=>none
def fillRow (place:Nat->Option (Nat×Nat)) (row:List UV):List (Nat×UV)->Option (List UV)
 |[]=>some row
 |(i,x)::rest=>
  (place i).bind fun (off,n)=>x.cells?.bind fun cs=>
   if cs.length=n then (splice row off cs).bind fun row'=>fillRow place row' rest else none
def parts (e:List (Nat×US)):List (Nat×Operand)->Option (List (Nat×UV))
 |[]=>some []
 |(i,x)::xs=>(val glob e x).bind fun a=>(parts e xs).bind fun l=>some ((i,a)::l)
def build (t:TypeId) (ps:List (Nat×UV)):Option UV:=
 (zero A t).bind fun z=>
  match A.P.underlying t with
  |some (.struct fs)=>if fs.toList.all fun f=>(V.size A f.type).isSome then (fillRow (fun i=>fs[i]?.bind fun f=>(V.size A f.type).map fun n=>(f.offset,n)) z ps).map .agg else none
  |some (.array _ e)=>(V.size A e).bind fun n=>(fillRow (fun i=>some (i * n,n)) z ps).map .agg
  |_=>none
def ctOf:Nat->TypeId->Option CT
  |0,_=>none
  |d+1,t=>
   match A.P.underlying t with
   |some .bool=>some .bool
   |some (.int k)=>some (.int k)
   |some .string=>some .str
   |some (.slice e)=>(ctOf d e).map .slice
   |some (.struct fs)=>ctFields (fs.toList.map fun f=>ctOf d f.type)
   |some (.array n e)=>ctFields (List.replicate n (ctOf d e))
   |_=>none
 where
  ctFields:List (Option CT)->Option CT
   |[]=>none
   |[c]=>c
   |c::cs=>c.bind fun c=>(ctFields cs).map fun c'=> .pair c c'
def elemOf (t:TypeId):Option ((c:CT)×CellT c):=
 (V.elem? A t).bind fun e=>(zero A e).bind fun z=>(ctOf A 16 e).bind fun c=>(dec1 c z).bind fun x=>
  if 0<z.length/\V.size A e=some z.length/\width c=z.length then some ⟨c,x⟩ else none
def fillRows (rows:List (List UV)):List (Nat×UV)->Option (List (List UV))
 |[]=>some rows
 |(i,x)::rest=>x.cells?.bind fun cs=>rows[i]?.bind fun row=>if cs.length=row.length then fillRows (rows.set i cs) rest else none
def deepRows (c:CT):Nat->List (Nat×UV)->UH->Option (List (List (CellT c))×UH)
 |_,[],H=>some ([],H)
 |i,(j,x)::ps,H=>if j=i then
  match x with
  | .nils| .emp=>(deepRows c (i+1) ps H).bind fun (l,H)=>some ([]::l,H)
  | .all b=>
   match H.bl[b]? with
   |some (.cells c' l)=>if h:c'=c/\H.wm<=b then (deepRows c (i+1) ps (setBl H b .dead)).bind fun (l',H)=>some ((h.1 ▸ l)::l',H) else none
   |_=>none
  |_=>none
  else none
def isAll:UV->Bool
 | .all _=>true
 |_=>false
def deepOf (H:UH) (t:TypeId) (len:Nat) (ps:List (Nat×UV)):Option (UV×UH):=
 match elemOf A t with
 |some ⟨.slice c,_⟩=>if ps.length=len/\ps.any (fun p=>isAll p.2)=true then (deepRows c 0 ps H).bind fun (l,H)=>some (.all H.bl.length,push H (.deep c l)) else none
 |_=>none
def buildSlice (H:UH) (t:TypeId) (len:Nat) (ps:List (Nat×UV)):Option (UV×UH):=
 (V.elem? A t).bind fun e=>(zero A e).bind fun z=>(elemOf A t).bind fun ⟨c,_⟩=>
  if len * z.length<=16777216 then
   if len=0/\ps.length=0 then some (.emp,H) else
    match deepOf A H t len ps with
    |some r=>some r
    |none=>(fillRows (List.replicate len z) ps).bind fun rows=>(decL c rows).bind fun l=>some (.all H.bl.length,push H (.cells c l))
  else none
def makeSlice (H:UH) (t:TypeId) (len cap:UV) (K:UV->UH->Option X):Option X:=
 match len,cap with
 | .int _ l,.int _ c=>
  (V.elem? A t).bind fun e=>(elemOf A t).bind fun ⟨ct,x⟩=>(V.bytes A e).bind fun n=>
   ask (decide (0<=l)&&decide (l<=c)&&decide (n * c<=70368744177664)&&decide (c<9223372036854775808))
    (K (.all H.bl.length) (push H (.cells ct (List.replicate l.toNat x))))
 |_,_=>none
def rowsOf (H:UH) (c:CT):UV->Option (List (CellT c))
 | .lit c' l=>if h:c'=c then some (h ▸ l) else none
 | .all b=>match H.bl[b]? with|some (.cells c' l)=>if h:c'=c then some (h ▸ l) else none|_=>none
 | .sl b r n=>match H.bl[b]? with|some (.cells c' l)=>if h:c'=c then some (cutL r n (h ▸ l)) else none|_=>none
 | .dsl b r=>match H.bl[b]? with|some (.deep c' l)=>if h:c'=c then some (h ▸ l.getD r []) else none|_=>none
 | .str s=>if h:CT.int .u8=c then some (h ▸ (bytL s:List (CellT (.int .u8)))) else none
 |_=>none
def deepY (H:UH):UV->Option (Nat×(c:CT)×List (CellT c)×List (List (CellT c)))
 | .all b=>match H.bl[b]? with|some (.deep c (a::l))=>if H.wm<=b then some (b,⟨c,a,l⟩) else none|_=>none
 |_=>none
def deepX (H:UH) (c:CT) (b:Nat):UV->Option (List (List (CellT c))×UH)
 | .nils| .emp=>some ([],setBl H b .dead)
 | .all b1=>match H.bl[b1]? with|some (.deep c' l)=>if h:c'=c/\b1≠b/\H.wm<=b1 then some (h.1 ▸ l,setBl (setBl H b1 .dead) b .dead) else none|_=>none
 |_=>none
def append (H:UH) (argTypes:Array TypeId) (x y:UV) (K:UV->UH->Option X):Option X:=
 argTypes[0]?.bind fun t=>(V.elem? A t).bind fun e=>(elemOf A t).bind fun ⟨c,_⟩=>(V.bytes A e).bind fun n=>
  (match argTypes[1]? with
   |some u=>(match A.P.underlying u with|some (.int _)=>none|some _=>some ()|none=>none)
   |none=>some ()).bind fun _=>
   match deepY H y with
   |some (b,⟨c',a,l⟩)=>if c=CT.slice c' then (deepX H c' b x).bind fun (f,H0)=>ask (decide ((f.length+(a::l).length) * n<=70368744177664)&&decide (f.length+(a::l).length<9223372036854775808)) (K (.all H0.bl.length) (push H0 (.deep c' (f++a::l)))) else none
   |none=>
   match y with
   | .nils| .emp=>match x with| .nils| .emp=>K x H|x=>match x with| .str _=>none|x=>(rowsOf H c x).bind fun f=>ask (decide (f.length * n<=70368744177664)&&decide (f.length<9223372036854775808)) (K x H)
   |y=>
    (rowsOf H c y).bind fun g=>
     match x with
     | .nils| .emp=>ask (decide (g.length * n<=70368744177664)&&decide (g.length<9223372036854775808)) (K (.all H.bl.length) (push H (.cells c g)))
     | .sl b (r+1) m=>
      match g with
      |[]=>none
      |a::g'=>
      if H.wm<=b then
       (rowsOf H c (.sl b (r+1) m)).bind fun f=>
        ask (decide ((m+(a::g').length) * n<=70368744177664)&&decide (m+(a::g').length<9223372036854775808)) (K (.all H.bl.length) (push (setBl H b .dead) (.cells c (f++(a::g')))))
      else none
     | .sl b 0 m=>
      if H.wm<=b then
       (rowsOf H c (.sl b 0 m)).bind fun f=>
        ask (decide ((m+g.length) * n<=70368744177664)&&decide (m+g.length<9223372036854775808)) (K (.all H.bl.length) (push (setBl H b .dead) (.cells c (f++g))))
      else none
     | .all b=>
      if H.wm<=b then
       (rowsOf H c (.all b)).bind fun f=>
        ask (decide ((f.length+g.length) * n<=70368744177664)&&decide (f.length+g.length<9223372036854775808)) (K (.all H.bl.length) (push (setBl H b .dead) (.cells c (f++g))))
      else none
     |_=>none
def slice (H:UH) (t:TypeId) (x:UV) (lo hi:Option Int) (K:UV->Option X):Option X:=
 match A.P.underlying t,x with
 |some .string,.str s=>ask (decide (0<=lo.getD 0)&&decide (lo.getD 0<=hi.getD s.size)&&decide (hi.getD s.size<=s.size)) (K (.str (s.extract (lo.getD 0).toNat (hi.getD s.size).toNat)))
 |some (.slice e),.lit c l=>
  if V.size A e=some (width c) then
   match hi with
   |none=>ask (decide (0<=lo.getD 0)&&decide (lo.getD 0<=l.length)) (K (.lit c (l.drop (lo.getD 0).toNat)))
   |some h=>ask (decide (0<=lo.getD 0)&&decide (lo.getD 0<=h)&&decide (h<=l.length)) (K (.lit c ((l.take h.toNat).drop (lo.getD 0).toNat)))
  else none
 |some (.slice e),.sl b r n=>
  match H.bl[b]? with
  |some (.cells c _)=>if V.size A e=some (width c) then ask (decide (0<=lo.getD 0)&&decide (lo.getD 0<=hi.getD n)&&decide (hi.getD n<=n)) (K (.sl b (addN r (lo.getD 0).toNat) ((hi.getD n).toNat-(lo.getD 0).toNat))) else none
  |some (.deep _ _)=>if V.size A e=some 1 then ask (decide (0<=lo.getD 0)&&decide (lo.getD 0<=hi.getD n)&&decide (hi.getD n<=n)) (K (.sl b (addN r (lo.getD 0).toNat) ((hi.getD n).toNat-(lo.getD 0).toNat))) else none
  |_=>none
 |some (.slice e),.all b=>
  match H.bl[b]? with
  |some (.cells c l)=>if V.size A e=some (width c) then ask (decide (0<=lo.getD 0)&&decide (lo.getD 0<=hi.getD l.length)&&decide (hi.getD l.length<=l.length)) (K (.sl b (lo.getD 0).toNat ((hi.getD l.length).toNat-(lo.getD 0).toNat))) else none
  |some (.deep _ l)=>if V.size A e=some 1 then ask (decide (0<=lo.getD 0)&&decide (lo.getD 0<=hi.getD l.length)&&decide (hi.getD l.length<=l.length)) (K (.sl b (lo.getD 0).toNat ((hi.getD l.length).toNat-(lo.getD 0).toNat))) else none
  |_=>none
 |_,_=>none
def slice0 (H:UH) (t:TypeId) (x:UV):Option (UV×UH):=
 match A.P.underlying t with
 |some (.slice e)=>if (V.size A e).isSome then
   match x with
   | .nils=>some (.nils,H)
   | .emp=>some (.emp,H)
   | .lit c _=>some (.all H.bl.length,push H (.cells c []))
   | .sl b _ _=>match H.bl[b]? with|some (.cells c _)=>some (.all H.bl.length,push H (.cells c []))|_=>none
   | .all b=>match H.bl[b]? with|some (.cells c _)=>some (.all H.bl.length,push H (.cells c []))|_=>none
   |_=>none
  else none
 |_=>none
def is0 (x:UV):Bool:=match x with| .int _ n=>decide (n=0)|_=>false
def intOp (op:BinOp) (k:IntKind) (x y:Int) (K:UV->Option X):Option X:=
 match op with
 | .add=>K (.int k (k.wrap (x+y)))
 | .sub=>K (.int k (k.wrap (x-y)))
 | .mul=>K (.int k (k.wrap (x * y)))
 | .quo=>cond (decide (y=0)) none (K (.int k (k.wrap (x.tdiv y))))
 | .rem=>cond (decide (y=0)) none (K (.int k (x.tmod y)))
 | .and| .or| .xor| .andNot=>(V.bits op k x y).bind fun n=>K (.int k n)
 | .eql=>K (.bool (decide (x=y)))
 | .neq=>K (.bool (!decide (x=y)))
 | .lss=>K (.bool (decide (x<y)))
 | .leq=>K (.bool (decide (x<=y)))
 | .gtr=>K (.bool (decide (y<x)))
 | .geq=>K (.bool (decide (y<=x)))
 |_=>none
def eqFields (eq:TypeId->UV->UV->Option Bool) (xs ys:List UV):List Field->Option Bool
 |[]=>some true
 |fd::fs=>
  if fd.name= "_" then eqFields eq xs ys fs
  else (part A fd.type xs fd.offset).bind fun x=>(part A fd.type ys fd.offset).bind fun y=>(eq fd.type x y).bind fun b=>(eqFields eq xs ys fs).map fun c=>b&&c
def eqElems (eq:UV->UV->Option Bool) (e:TypeId) (sz:Nat) (xs ys:List UV):Nat->Nat->Option Bool
 |0,_=>some true
 |n+1,i=>(part A e xs (i * sz)).bind fun x=>(part A e ys (i * sz)).bind fun y=>(eq x y).bind fun b=>(eqElems eq e sz xs ys n (i+1)).map fun c=>b&&c
def eqT:Nat->TypeId->UV->UV->Option Bool
 |0,_,_,_=>none
 |d+1,t,x,y=>
  match A.P.underlying t,x,y with
  |some .bool,.bool a,.bool b=>some (a==b)
  |some (.int _),.int k a,.int k' b=>if k=k' then some (decide (a=b)) else none
  |some .string,.str a,.str b=>some (a.toList==b.toList)
  |some (.struct fs),.agg xs,.agg ys=>if A.P.stoodInHeld t then none else eqFields A (eqT d) xs ys fs.toList
  |some (.array n e),.agg xs,.agg ys=>(V.size A e).bind fun sz=>eqElems A (eqT d e) e sz xs ys n 0
  |_,_,_=>none
def eqOp (t:TypeId) (x y:UV):Option Bool:=
 match A.P.underlying t,x,y with
 |some .bool,.bool a,.bool b=>some (a==b)
 |some (.struct _),.agg xs,.agg ys=>if A.P.eqGuardType A.P.depth t then none else eqT A 1000 t (.agg xs) (.agg ys)
 |some (.array _ _),.agg xs,.agg ys=>if A.P.eqGuardType A.P.depth t then none else eqT A 1000 t (.agg xs) (.agg ys)
 |some (.slice _),.nils,.nils=>some true
 |some (.slice _),.nils,.emp|some (.slice _),.emp,.nils=>some false
 |some (.pointer _),.nilp,.nilp=>some true
 |some (.pointer _),.nilp,.ptr .. |some (.pointer _),.ptr ..,.nilp|some (.pointer _),.nilp,.pel .. |some (.pointer _),.pel ..,.nilp|some (.pointer _),.nilp,.eptr _|some (.pointer _),.eptr _,.nilp=>some false
 |some (.map _ _),.nilm,.nilm=>some true
 |some (.map _ _),.nilm,.mp _|some (.map _ _),.mp _,.nilm=>some false
 |some (.func _ _ _),.nilf,.nilf=>some true
 |some (.func _ _ _),.nilf,.fn .. |some (.func _ _ _),.fn ..,.nilf=>some false
 |_,_,_=>none
def strOp (op:BinOp) (x y:ByteArray) (K:UV->Option X):Option X:=
 match op with
 | .add=>ask (decide (x.size+y.size<=9223372036854775807)) (K (.str (x++y)))
 | .eql=>K (.bool (x.toList==y.toList))
 | .neq=>K (.bool (!(x.toList==y.toList)))
 | .lss=>K (.bool (Op.bytesLess x.toList y.toList))
 | .leq=>K (.bool (Op.bytesLess x.toList y.toList||x.toList==y.toList))
 | .gtr=>K (.bool !(Op.bytesLess x.toList y.toList||x.toList==y.toList))
 | .geq=>K (.bool !(Op.bytesLess x.toList y.toList))
 |_=>none
def binop (op:BinOp) (t:TypeId) (x y:UV) (K:UV->Option X):Option X:=
 match op,x,y with
 | .shl,.int k a,.int _ b=>ask (decide (0<=b)) (K (.int k (k.wrap (a * 2^min b.toNat k.bits))))
 | .shr,.int k a,.int _ b=>ask (decide (0<=b)) (K (.int k (a.fdiv (2^min b.toNat k.bits))))
 |op,.int k a,.int k' b=>if k=k' then intOp op k a b K else none
 |op,.str a,.str b=>strOp op a b K
 | .eql,x,y=>(eqOp A t x y).bind fun b=>K (.bool b)
 | .neq,x,y=>(eqOp A t x y).bind fun b=>K (.bool !b)
 |_,_,_=>none
def unop (op:UnOp) (x:UV):Option UV:=
 match op,x with
 | .neg,.int k n=>some (.int k (k.wrap (0-n)))
 | .xor,.int k n=>(V.bits .xor k (if k.signed then -1 else k.max) n).map (.int k)
 | .not,.bool b=>some (.bool !b)
 |_,_=>none
def convert (H:UH) (src dst:TypeId) (x:UV) (K:UV->UH->Option X):Option X:=
 match A.P.underlying src,A.P.underlying dst,x with
 |some _,some (.int k),.int _ n=>K (.int k (k.wrap n)) H
 |some _,some .string,.str s=>K (.str s) H
 |some .string,some (.slice e),.str s=>
  match A.P.underlying e with
  |some (.int .u8)=>ask (decide (s.size<=70368744177664)) (K (.all H.bl.length) (push H (.cells (.int .u8) (bytL s))))
  |_=>none
 |some (.slice e),some .string,x=>
  match A.P.underlying e with
  |some (.int .u8)=>(rowsOf H (.int .u8) x).bind fun l=>K (.str (byts l)) H
  |_=>none
 |_,_,_=>none
variable {k:KT}
def findL (i:KeyT k) (z:UV) (K:UV->Bool->Option X):List (KeyT k×UV)->Option X
 |[]=>K z false
 |(j,v)::es=>cond (eqK k i j) (K v true) (findL i z K es)
def setL (i:KeyT k) (v:UV) (K:List (KeyT k×UV)->Option X):List (KeyT k×UV)->Option X
 |[]=>K [(i,v)]
 |(j,w)::es=>cond (eqK k i j) (K ((i,v)::es)) (setL i v (fun es'=>K ((j,w)::es')) es)
def delL (i:KeyT k) (K:List (KeyT k×UV)->Option X):List (KeyT k×UV)->Option X
 |[]=>K []
 |(j,w)::es=>cond (eqK k i j) (K es) (delL i (fun es'=>K ((j,w)::es')) es)
def ktOf (t:TypeId):Option KT:=
 match A.P.underlying t with
 |some (.int k)=>some (.int k)
 |some .string=>some .str
 |_=>none
def lookup (H:UH) (t:TypeId) (m i:UV) (ok:Bool) (K:UV->Option X):Option X:=
 match A.P.underlying t with
 |some (.map kt et)=>
  match m with
  | .mp b=>
   match H.bl[b]? with
   |some (.mapL k es)=>if ktOf A kt=some k then (keyOf? k i).bind fun i=>(zeroV A et).bind fun z=>findL i z (fun v b=>K (if ok then .tup [v,.bool b] else v)) es else none
   |some (.mapT k g c l)=>if ktOf A kt=some k then (keyOf? k i).bind fun i=>(zeroV A et).bind fun z=>cond (hasT i l) (K (if ok then .tup [valOf g c (getT i (dflt c) l),.bool true] else valOf g c (getT i (dflt c) l))) (K (if ok then .tup [z,.bool false] else z)) else none
   |_=>none
  |_=>none
 |_=>none
def decV (g:Bool) (c:CT) (x:UV):Option (CellT c):=
 match g,x with
 |true,.agg cs=>dec1 c cs
 |false,x=>if width c=1 then dec1 c [x] else none
 |_,_=>none
def mapUpdate (H:UH) (t:TypeId) (m i x:UV) (K:UH->Option X):Option X:=
 match A.P.underlying t,m with
 |some (.map kt _),.mp b=>
  if H.wm<=b then
   match H.bl[b]? with
   |some (.mapL k es)=>if ktOf A kt=some k/\closedR 8 x then (keyOf? k i).bind fun i=>setL i x (fun es'=>K (setBl H b (.mapL k es'))) es else none
   |some (.mapT k g c l)=>if ktOf A kt=some k then (keyOf? k i).bind fun i=>(decV g c x).bind fun x=>K (setBl H b (.mapT k g c (setT i x l))) else none
   |_=>none
  else none
 |_,_=>none
def mapDelete (H:UH) (t:TypeId) (m i:UV) (K:UH->Option X):Option X:=
 match A.P.underlying t,m with
 |some (.map kt _),.mp b=>
  if H.wm<=b then
   match H.bl[b]? with
   |some (.mapL k es)=>if ktOf A kt=some k then (keyOf? k i).bind fun i=>delL i (fun es'=>K (setBl H b (.mapL k es'))) es else none
   |some (.mapT k g c l)=>if ktOf A kt=some k then (keyOf? k i).bind fun i=>K (setBl H b (.mapT k g c (delT i l))) else none
   |_=>none
  else none
 |_,_=>none
def newMap (k:KT) (et:TypeId):UB:=
 match V.isAgg A et,ctOf A 16 et with
 |some g,some c=>if g||decide (width c=1) then .mapT k g c [] else .mapL k []
 |_,_=> .mapL k []
def toInt:UV->Option Int
 | .int _ n=>some n
 |_=>none
def optInt (e:List (Nat×US)):Option Operand->Option (Option Int)
 |none=>some none
 |some x=>(val glob e x).bind fun a=>(toInt a).map some
def maxUV:UV->UV->Option UV
 | .int k x,.int _ y=>some (.int k (if y>x then y else x))
 |_,_=>none
def minUV:UV->UV->Option UV
 | .int k x,.int _ y=>some (.int k (if y<x then y else x))
 |_,_=>none
def fold2 (f:UV->UV->Option UV) (x:UV):List UV->Option UV
 |[]=>some x
 |y::ys=>(f x y).bind fun z=>fold2 f z ys
def notStr:UV->Bool
 | .str _=>false
 |_=>true
def builtin (H:UH) (b:Builtin) (argTypes:Array TypeId) (args:List UV) (K:UV->UH->Option X):Option X:=
 match b,args with
 | .append,[x,y]=>append A H argTypes x y K
 | .len,[x]=>
  argTypes[0]?.bind fun t=>
   match A.P.underlying t,x with
   |some .string,.str s=>K (.int .i64 s.size) H
   |some (.slice _),.nils|some (.slice _),.emp=>K (.int .i64 0) H
   |some (.slice _),.lit _ l=>K (.int .i64 l.length) H
   |some (.slice _),.all b=>match H.bl[b]? with|some (.cells _ l)=>K (.int .i64 l.length) H|some (.deep _ l)=>K (.int .i64 l.length) H|_=>none
   |some (.slice _),.dsl b r=>match H.bl[b]? with|some (.deep _ l)=>K (.int .i64 (l.getD r []).length) H|_=>none
   |some (.slice _),.sl _ _ n=>K (.int .i64 n) H
   |some (.map _ _),.mp b=>match H.bl[b]? with|some (.mapL _ es)=>K (.int .i64 es.length) H|some (.mapT _ _ _ l)=>K (.int .i64 l.length) H|_=>none
   |some (.array n _),_=>K (.int .i64 n) H
   |_,_=>none
 | .max,x::xs=>(fold2 maxUV x xs).bind fun v=>K v H
 | .min,x::xs=>(fold2 minUV x xs).bind fun v=>K v H
 | .delete,[m,k]=>argTypes[0]?.bind fun t=>mapDelete A H t m k fun H'=>K (.tup []) H'
 | .copy,[x,y]=>
  argTypes[0]?.bind fun t=>(V.elem? A t).bind fun e=>(V.size A e).bind fun z=>
   if notStr y then
    match x with
    | .sl b r n=>
     match H.bl[b]? with
     |some (.cells c l)=>if H.wm<=b/\width c=z then (rowsOf H c y).bind fun g=>K (.int .i64 (min g.length n:Nat)) (setBl H b (.cells c (cpyL r (min g.length n) g l))) else none
     |_=>none
    | .all b=>
     match H.bl[b]? with
     |some (.cells c l)=>if H.wm<=b/\width c=z then (rowsOf H c y).bind fun g=>K (.int .i64 (min g.length l.length:Nat)) (setBl H b (.cells c (cpyL 0 (min g.length l.length) g l))) else none
     |_=>none
    |_=>none
   else none
 |_,_=>none
def isBld (cs:List UV):Bool:=match cs with|[.nilp,.nils]=>true|_=>false
variable [TB:Tbl]
def box (s:St) (t:TypeId) (isLoc:Bool) (cs:List UV):US×St:=
 if isLoc then (.loc s.F.length 0,{ s with F:=s.F++[cs] })
 else if t=TB.bT/\isBld cs=true then (.v (.ptr (s.H.bl.length+1) 0),{ s with H:=push (push s.H (.byt .empty)) (.bld (.all s.H.bl.length)) })
 else (.v (.ptr s.H.bl.length 0),{ s with H:=push s.H (.opn cs) })
def boxed (s:St) (t:TypeId) (isLoc:Bool) (cs:List UV) (K:US->St->Option X):Option X:=if isLoc||decide (0<cs.length) then K (box s t isLoc cs).1 (box s t isLoc cs).2 else none
def frzLit (v:UV) (H:UH):Option (UV×UH):=
 match v with
 | .all b=>if H.wm<=b then (match H.bl[b]? with|some (.cells c l)=>some (.lit c l,setBl H b .dead)|some (.deep c l)=>some (.lit (.slice c) l,setBl H b .dead)|_=>none) else none
 |_=>none
structure Env where
 join:Nat->Bool
 call:(X:Type)->UV->List UV->UH->(UV->UH->Option X)->Option X
 loop:(X:Type)->Nat->St->(V.Ex->St->Option X)->Option X
def op (env:Env) (locs:List Nat) (s:St) (o:Oper) (K:US->St->Option X):Option X:=
 match o.op with
 | .move x| .assign x=>(operand glob s.e x).bind fun v=>K v s
 | .pick c a b=>(val glob s.e c).bind fun
  | .bool p=>cond p ((operand glob s.e a).bind fun v=>K v s) ((operand glob s.e b).bind fun v=>K v s)
  |_=>none
 | .alloc t=>(zero A t).bind fun z=>boxed s t ((o.dst.map (locs.contains ·)).getD false) z K
 | .box t x=>(val glob s.e x).bind fun a=>a.cells?.bind fun cs=>boxed s t ((o.dst.map (locs.contains ·)).getD false) cs K
 | .build t ps=>(parts glob s.e ps.toList).bind fun l=>(build A t l).bind fun v=>K (.v v) s
 | .buildSlice t n ps=>(parts glob s.e ps.toList).bind fun l=>(buildSlice A s.H t n l).bind fun (v,H)=>(cond (V.litOp locs o) (frzLit v H) (some (v,H))).bind fun (v,H)=>K (.v v) { s with H:=H }
 | .load t x=>(operand glob s.e x).bind fun p=>(load A s t p).bind fun v=>K (.v v) s
 | .store t x y=>(operand glob s.e x).bind fun p=>(val glob s.e y).bind fun a=>(store A s t p a).bind fun s'=>K (.v .junk) s'
 | .nilCheck x=>(operand glob s.e x).bind fun
  | .loc i c=>K (.loc i c) s
  | .v (.ptr b c)=>K (.v (.ptr b c)) s
  | .v (.pel b r c)=>K (.v (.pel b r c)) s
  | .v (.dpl b r j c)=>K (.v (.dpl b r j c)) s
  | .v (.eptr row)=>K (.v (.eptr row)) s
  | .v (.fn f cs)=>K (.v (.fn f cs)) s
  | .v (.yl b)=>K (.v (.yl b)) s
  |_=>none
 | .binOp b t x y _=>(val glob s.e x).bind fun u=>(val glob s.e y).bind fun v=>binop A b t u v fun r=>K (.v r) s
 | .unOp u _ x=>(val glob s.e x).bind fun v=>(unop u v).bind fun r=>K (.v r) s
 | .convert src dst x=>(val glob s.e x).bind fun v=>convert A s.H src dst v fun r H=>K (.v r) { s with H:=H }
 | .makeFunc (.func f) first caps=>if first.size=0 then (vals glob s.e caps.toList).bind fun l=>K (.v (.fn f l)) s else none
 | .makeMap t r=>
  (match r with|none=>some ()|some x=>(match A.P.underlying t with|some (.map _ _)=>(val glob s.e x).bind fun v=>(toInt v).map fun _=>()|_=>none)).bind fun _=>
   match A.P.underlying t with
   |some (.map kt et)=>(ktOf A kt).bind fun k=>K (.v (.mp s.H.bl.length)) { s with H:=push s.H (newMap A k et) }
   |_=>none
 | .makeSlice t l c=>(val glob s.e l).bind fun u=>(val glob s.e c).bind fun v=>makeSlice A s.H t u v fun r H=>K (.v r) { s with H:=H }
 | .slice t x lo hi none=>(val glob s.e x).bind fun v=>(optInt glob s.e lo).bind fun l=>(optInt glob s.e hi).bind fun h=>slice A s.H t v l h fun r=>K (.v r) s
 | .slice t x none (some h) (some m)=>(val glob s.e x).bind fun v=>(val glob s.e h).bind fun a=>(val glob s.e m).bind fun b=>if is0 a&&is0 b then (slice0 A s.H t v).bind fun (r,H)=>K (.v r) { s with H:=H } else none
 | .fieldAddr t x f=>(operand glob s.e x).bind fun p=>(V.field? A t f).bind fun fd=>(V.size A fd.type).bind fun n=>if n=0 then none else (addCell fd.offset p).bind fun v=>K v s
 | .field t x f=>(val glob s.e x).bind fun
  | .agg cs=>(V.field? A t f).bind fun fd=>(part A fd.type cs fd.offset).bind fun v=>K (.v v) s
  |_=>none
 | .indexAddr t x i=>(operand glob s.e x).bind fun p=>(val glob s.e i).bind fun n=>(toInt n).bind fun n=>indexAddr A s.H t p n fun v=>K v s
 | .index t x i=>(val glob s.e x).bind fun v=>(val glob s.e i).bind fun n=>(toInt n).bind fun n=>index A t v n fun r=>K (.v r) s
 | .lookup t x i ok=>(val glob s.e x).bind fun m=>(val glob s.e i).bind fun k=>lookup A s.H t m k ok fun r=>K (.v r) s
 | .mapUpdate t m k x| .insert t m k x=>(val glob s.e m).bind fun m=>(val glob s.e k).bind fun k=>(val glob s.e x).bind fun v=>mapUpdate A s.H t m k v fun H=>K (.v .junk) { s with H:=H }
 | .extract x i=>(val glob s.e x).bind fun
  | .tup vs=>vs[i]?.bind fun v=>K (.v v) s
  |_=>none
 | .call c=>
  (vals glob s.e c.args.toList).bind fun args=>
   match c.callee with
   | .value f=>(val glob s.e f).bind fun g=>env.call X g args s.H fun r H=>K (.v r) { s with H:=H }
   | .builtin b=>builtin A s.H b c.argTypes args fun r H=>K (.v r) { s with H:=H }
   |_=>none
 |_=>none
def put (s:St) (n:Nat) (dst:Option Nat) (v:US):Option St:=
 match dst with
 |none=>some s
 |some d=>if d<n then some { s with e:=(d,v)::s.e } else none
def touchAt (w:Bool):Option US->V.Tch
 |some (.loc i _)=> .box i w
 |some (.v (.eptr _))=>if w then .heap w else .no
 |_=> .heap w
def touchIx:Option US->V.Tch
 |some (.v (.sl _ _ _))|some (.v (.all _))|some (.v (.dsl _ _))=> .heap false
 |_=> .no
def touchLen:Option (List UV)->V.Tch
 |some [.mp _]=> .heap false
 |some _=> .no
 |none=> .heap false
def touch (locs:List Nat) (s:St) (o:Oper) (quiet:Bool):V.Tch:=
 match o.op with
 | .load _ x=>touchAt false (operand glob s.e x)
 | .indexAddr _ x _=>touchIx (operand glob s.e x)
 | .store _ x _=>touchAt true (operand glob s.e x)
 | .alloc _| .box _ _=>if V.isLoc locs o then .no else .heap false
 | .mapUpdate .. | .insert .. => .heap true
 | .call { callee:= .builtin .copy,.. }| .call { callee:= .builtin .delete,.. }=> .heap true
 | .call { callee:= .builtin .max,.. }| .call { callee:= .builtin .min,.. }=> .no
 | .call { callee:= .builtin .len,args,.. }=>touchLen (vals glob s.e args.toList)
 | .call _=> .heap (!quiet)
 | .move _| .assign _| .pick .. | .build .. | .nilCheck _| .binOp .. | .unOp .. | .makeFunc .. | .fieldAddr .. | .field .. | .index .. | .extract .. => .no
 |_=> .heap false
def guard (os:Array Oper) (s:St) (o:Oper) (K:Bool->St->Option X):Option X:=
 match o.guard with
 |none=>K true s
 |some (j,want)=>
  match (os[j]?).bind (·.dst) with
  |some d=>match get s.e d with
   | .v (.bool b)=>cond b (K want { s with e:=(d,.v (.bool true))::s.e }) (K (!want) { s with e:=(d,.v (.bool false))::s.e })
   | .v (.tup [])=>K false s
   |_=>none
  |none=>none
def ops (env:Env) (locs:List Nat) (n:Nat) (all:Array Oper):List Oper->St->(St->Option X)->Option X
 |[],s,K=>K s
 |o::rest,s,K=>guard all s o fun
  |true,s=>op A glob env locs s o fun v s=>fU v fun v=>(put s n o.dst v).bind fun s=>fSt s fun s=>ops env locs n all rest s K
  |false,s=>(put s n o.dst (.v (.tup []))).bind fun s=>ops env locs n all rest s K
def opD (env:Env) (locs:List Nat) (t:V.Tch) (s:St) (o:Oper) (K:US->St->Option X):Option X:=
 match t with
 | .heap true=>op A glob env locs s o K
 |_=>op A glob env locs { s with H:={ s.H with wm:=s.H.bl.length } } o fun v s'=>K v { s' with H:={ s'.H with wm:=s.H.wm } }
inductive Rec where
 |load (p:UV) (t:TypeId) (v:UV)
 |look (b:Nat) (k:KT) (es:List (KeyT k×UV))
def isStill (s:St) (o:Oper):Bool:=
 V.stillOp A o&&match o.op with
  | .load _ x=>(match operand glob s.e x with|some (.v (.ptr ..))|some (.v (.pel ..))|some (.v (.dpl ..))=>true|_=>false)
  |_=>true
def plainUS (m:Nat):US->Bool
 | .v (.mp b)=>decide (b<m)
 | .v (.fn _ [])| .v .nilm| .v .nilf=>true
 |_=>false
def sameP:UV->UV->Bool
 | .mp b,.mp b'=>b==b'
 | .fn f [],.fn f' []=>f==f'
 | .nilm,.nilm=>true
 | .nilf,.nilf=>true
 |_,_=>false
def sameF:UV->UV->Bool
 | .fn f [],.fn f' []=>f==f'
 | .nilf,.nilf=>true
 |_,_=>false
def sameKey:(k k':KT)->KeyT k->KeyT k'->Bool
 | .int a,.int b=>fun (i j:Int)=>decide (a=b)&&decide (i=j)
 |_,_=>fun _ _=>false
def sameEs (k k':KT):List (KeyT k×UV)->List (KeyT k'×UV)->Bool
 |[],[]=>true
 |(i,v)::es,(j,w)::es'=>sameKey k k' i j&&sameF v w&&sameEs k k' es es'
 |_,_=>false
def recOf (s:St) (o:Oper) (v:US):Option Rec:=
 match o.op with
 | .load t x=>
  match operand glob s.e x,v with
  |some (.v p),.v a=>some (.load p t a)
  |_,_=>none
 | .lookup _ x _ _=>
  match val glob s.e x with
  |some (.mp b)=>(match s.H.bl[b]? with|some (.mapL k es)=>if sameEs k k es es then some (.look b k es) else none|_=>none)
  |_=>none
 |_=>none
def recOK (s:St):Rec->Bool
 | .load p t a=>(match load A s t (.v p) with|some a'=>sameP a a'|none=>false)
 | .look b k es=>(match s.H.bl[b]? with|some (.mapL k' es')=>sameEs k k' es es'|_=>false)
def opsD (env:Env) (locs:List Nat) (n:Nat) (all:Array Oper) (b:List Nat):List Oper->Nat->St->List V.Tch->List Rec->(St->List V.Tch->Option X)->Option X
 |[],_,s,l,_,K=>K s l
 |o::rest,i,s,l,rs,K=>guard all s o fun
  |true,s=>
   if isStill A glob s o then
    op A glob env locs s o fun v _=>fU v fun v=>
     if plainUS s.H.bl.length v&&V.ordW b i l then
      (recOf glob s o v).bind fun r=>(put s n o.dst v).bind fun s''=>fSt s'' fun s''=>opsD env locs n all b rest (i+1) s'' (l++[.no]) (rs++[r]) K
     else none
   else
    opD A glob env locs (touch glob locs s o (V.quietAt A locs all.toList b i o)) s o fun v s'=>fU v fun v=>(put s' n o.dst v).bind fun s''=>fSt s'' fun s''=>
     if rs.all (recOK A s'') then opsD env locs n all b rest (i+1) s'' (l++[touch glob locs s o (V.quietAt A locs all.toList b i o)]) rs K else none
  |false,s=>(put s n o.dst (.v (.tup []))).bind fun s=>opsD env locs n all b rest (i+1) s (l++[.no]) rs K
def region (env:Env) (locs:List Nat) (n:Nat) (os:Array Oper) (draw:Bool) (s:St) (K:St->Option X):Option X:=
 if draw then
  if V.slotsOK os (V.ancL os.toList []) then
   opsD A glob env locs n os (V.ancL os.toList []) os.toList 0 s [] [] fun s l=>if V.traceOK (V.ancL os.toList []) l then K s else none
  else none
 else ops A glob env locs n os os.toList s K
def ids:Nat->UV->List Nat
 |0,_=>[]
 |_+1,.ptr b _|_+1,.pel b _ _|_+1,.sl b _ _|_+1,.all b|_+1,.dsl b _|_+1,.dpl b _ _ _|_+1,.mp b|_+1,.yl b=>[b]
 |d+1,.fn _ cs|d+1,.agg cs|d+1,.tup cs=>cs.flatMap (ids d)
 |_+1,_=>[]
def idsB:UB->List Nat
 | .opn row=>row.flatMap (ids 8)
 | .loop _ env _ _=>env.flatMap fun p=>ids 8 p.2
 | .bld q=>ids 8 q
 |_=>[]
def idsS:US->List Nat
 | .v x=>ids 8 x
 | .loc .. =>[]
def reach (H:UH):Nat->List Nat->List Nat->List Nat
 |0,_,seen=>seen
 |_+1,[],seen=>seen
 |d+1,b::w,seen=>if seen.contains b then reach H d w seen else reach H d (idsB (H.bl.getD b .dead)++w) (seen++[b])
def liveB:UB->Bool
 | .dead=>false
 |_=>true
def pos (b:Nat):List Nat->Nat->Option Nat
 |[],_=>none
 |x::l,i=>if x=b then some i else pos b l (i+1)
def ren (φ:Nat->Option Nat):Nat->UV->UV
 |0,_=> .junk
 |_+1,.ptr b c=>match φ b with|some b'=> .ptr b' c|none=> .junk
 |_+1,.pel b r c=>match φ b with|some b'=> .pel b' r c|none=> .junk
 |_+1,.sl b r n=>match φ b with|some b'=> .sl b' r n|none=> .junk
 |_+1,.all b=>match φ b with|some b'=> .all b'|none=> .junk
 |_+1,.dsl b r=>match φ b with|some b'=> .dsl b' r|none=> .junk
 |_+1,.dpl b r j c=>match φ b with|some b'=> .dpl b' r j c|none=> .junk
 |_+1,.mp b=>match φ b with|some b'=> .mp b'|none=> .junk
 |_+1,.yl b=>match φ b with|some b'=> .yl b'|none=> .junk
 |d+1,.fn f cs=> .fn f (cs.map (ren φ d))
 |d+1,.agg cs=> .agg (cs.map (ren φ d))
 |d+1,.tup cs=> .tup (cs.map (ren φ d))
 |_+1,x=>x
def renB (φ:Nat->Option Nat):UB->UB
 | .opn row=> .opn (row.map (ren φ 8))
 | .loop id env st pe=> .loop id (env.map fun p=>(p.1,ren φ 8 p.2)) st pe
 | .bld q=> .bld (ren φ 8 q)
 |x=>x
def locsOf:List (Nat×US)->List Nat->List Nat
 |[],l=>l
 |(_,.loc i _)::e,l=>locsOf e (if l.contains i then l else l++[i])
 |_::e,l=>locsOf e l
def renS (φ ψ:Nat->Option Nat):US->US
 | .v x=> .v (ren φ 8 x)
 | .loc i c=>match ψ i with|some i'=> .loc i' c|none=> .v .junk
def compact (keep:List Nat) (s:St):St:=
 let e:=keep.map fun i=>(i,get s.e i)
 let fs:=locsOf e []
 let rows:=fs.map fun i=>s.F.getD i []
 let bs:=List.range s.base++(reach s.H 64 (List.range s.base++(e.flatMap fun p=>idsS p.2)++rows.flatMap fun row=>row.flatMap (ids 8)) []).filter (fun b=>decide (s.base<=b))
 let φ:=fun b=>pos b bs 0
 let ψ:=fun i=>pos i fs 0
 { e:=e.map fun p=>(p.1,renS φ ψ p.2),F:=rows.map fun row=>row.map (ren φ 8),H:=⟨bs.map fun b=>renB φ (s.H.bl.getD b .dead),s.H.wm⟩,base:=s.base }
inductive Sh where
 |any
 |junk
 |lit (c:CT)
 |own (c:CT)
 |cut (c:CT)
 |deep (c:CT)
 |mv (c:CT)
 |map (k:KT) (g:Bool) (c:CT)
 |agg (l:List Sh)
 |tup (l:List Sh)
 |kill (l:List Nat) (sh:Sh)
 deriving Inhabited
def Sh.kills:Sh->List Nat
 | .kill l _=>l
 |_=>[]
def Sh.inner:Sh->Sh
 | .kill _ sh=>sh
 |sh=>sh
def killB:List Nat->UH->UH
 |[],H=>H
 |b::l,H=>killB l (setBl H b .dead)
def decM {k:KT} (g:Bool) (c:CT):List (KeyT k×UV)->Option (List (KeyT k×CellT c))
 |[]=>some []
 |(i,x)::es=>(decV g c x).bind fun y=>(decM g c es).bind fun l=>some ((i,y)::l)
def frzOf (d:Nat) (H:UH) (c:CT) (b:Nat):Option (List (CellT c)):=
 match H.bl[b]? with
 |some (.cells c' l)=>if h:c'=c then some (h ▸ l) else none
 |some (.deep c' l)=>if h:CT.slice c'=c/\1<d then some (h.1 ▸ l) else none
 |_=>none
def mold:Nat->Bool->Sh->UV->UH->Option (UV×UH)
  |0,_,_,_,_=>none
  |_+1,_,.any,x,H=>some (x,H)
  |_+1,_,.junk,_,H=>some (.junk,H)
  |_+1,_,.lit c,.nils,H|_+1,_,.lit c,.emp,H=>some (.lit c [],H)
  |d+1,fz,.lit c,.sl b r n,H=>if fz&&decide (0<d)&&decide (H.wm<=b) then (rowsOf H c (.sl b r n)).bind fun l=>some (.lit c l,setBl H b .dead) else none
  |d+1,fz,.lit c,.all b,H=>if fz&&decide (0<d)&&decide (H.wm<=b) then (frzOf d H c b).bind fun l=>some (.lit c l,setBl H b .dead) else none
  |_+1,_,.lit _,.lit c l,H=>some (.lit c l,H)
  |_+1,_,.own c,.nils,H|_+1,_,.own c,.emp,H=>some (.all H.bl.length,push H (.cells c []))
  |_+1,_,.own c,.sl b 0 n,H=>
   match H.bl[b]? with
   |some (.cells c' l)=>if c'=c/\H.wm<=b then some (.all H.bl.length,push (setBl H b .dead) (.cells c' (l.take n))) else none
   |_=>none
  |_+1,_,.cut c,.nils,H|_+1,_,.cut c,.emp,H=>some (.sl H.bl.length 0 0,push H (.cells c []))
  |_+1,_,.cut _,.sl b r n,H=>some (.sl b r n,H)
  |_+1,_,.cut _,.all b,H=>match H.bl[b]? with|some (.cells _ l)=>some (.sl b 0 l.length,H)|_=>none
  |_+1,_,.own _,.all b,H=>some (.all b,H)
  |_+1,_,.deep c,.nils,H|_+1,_,.deep c,.emp,H=>some (.all H.bl.length,push H (.deep c []))
  |_+1,_,.deep _,.all b,H=>some (.all b,H)
  |_+1,_,.mv c,.all b,H=>
   match H.bl[b]? with
   |some (.cells c' l)=>if c'=c/\H.wm<=b then some (.all H.bl.length,push (setBl H b .dead) (.cells c' l)) else none
   |_=>none
  |_+1,_,.map k g c,.mp b,H=>
   match H.bl[b]? with
   |some (.mapL k' es)=>if h:k'=k then (decM g c (h ▸ es)).bind fun l=>some (.mp b,setBl H b (.mapT k g c l)) else none
   |some (.mapT ..)=>some (.mp b,H)
   |_=>none
  |d+1,fz,.agg shs,.agg cs,H=>(molds (mold d fz) shs cs H).map fun (l,H)=>(.agg l,H)
  |d+1,fz,.tup shs,.tup cs,H=>(molds (mold d fz) shs cs H).map fun (l,H)=>(.tup l,H)
  |_+1,_,_,_,_=>none
 where
  molds (m:Sh->UV->UH->Option (UV×UH)):List Sh->List UV->UH->Option (List UV×UH)
   |[],[],H=>some ([],H)
   |s::ss,x::xs,H=>(m s x H).bind fun (x',H)=>(molds m ss xs H).bind fun (xs',H)=>some (x'::xs',H)
   |_,_,_=>none
def moldE (shs:List (Nat×Sh)):List (Nat×US)->UH->Option (List (Nat×US)×UH)
 |[],H=>some ([],H)
 |(i,.v x)::e,H=>(match shs.lookup i with|some sh=>mold 8 false sh x H|none=>some (x,H)).bind fun (x',H)=>(moldE shs e H).bind fun (e',H)=>some ((i,.v x')::e',H)
 |p::e,H=>(moldE shs e H).bind fun (e',H)=>some (p::e',H)
def moldR (sh:Option (List Sh)) (row:List UV) (H:UH):Option (List UV×UH):=
 match sh with
 |some l=>mold.molds (mold 8 false) l row H
 |none=>some (row,H)
def moldF (shs:List (Nat×List Sh)):Nat->List (List UV)->UH->Option (List (List UV)×UH)
 |_,[],H=>some ([],H)
 |i,row::F,H=>(moldR (shs.lookup i) row H).bind fun (row',H)=>(moldF shs (i+1) F H).bind fun (F',H)=>some (row'::F',H)
def moldB:List (Nat×List Sh)->UH->Option UH
 |[],H=>some H
 |(b,shs)::l,H=>
  match H.bl[b]? with
  |some (.opn row)=>(mold.molds (mold 8 false) shs row H).bind fun (row',H1)=>match H1.bl[b]? with|some (.opn _)=>moldB l (setBl H1 b (.opn row'))|_=>none
  |_=>none
structure Pol where
 keep:List Nat
 slots:List (Nat×Sh)
 boxes:List (Nat×List Sh)
 opns:List (Nat×List Sh)
def prep (p:Pol) (s:St):Option St:=
 if s.H.wm<=s.base then (moldE p.slots (compact p.keep s).e (compact p.keep s).H).bind fun (e,H)=>(moldF p.boxes 0 (compact p.keep s).F H).bind fun (F,H)=>(moldB p.opns H).bind fun H=>if H.wm<=s.base then some (compact p.keep { e,F,H,base:=s.base }) else none else none
def loopKey:Code->Nat
 | .region id _ _=>id
 | .seq a _=>loopKey a
 | .cond _ a _=>loopKey a
 | .block _ c=>loopKey c
 | .loop c=>loopKey c
 | .scope c=>loopKey c
 | .rangeFunc _ _ a _=>loopKey a
 |_=>0
def setTmp (s:St) (x:Operand) (b:Bool):St:=
 match x with
 | .tmp t=>{ s with e:=(t,.v (.bool b))::s.e }
 |_=>s
def code (env:Env) (locs:List Nat) (n:Nat):Code->St->(V.Ex->St->Option X)->Option X
 | .skip,s,K=>K .normal s
 | .label _,s,K=>K .normal s
 | .region id os draw,s,K=>cond (env.join (2000000+id)) (env.loop X (2000000+id) s K) (region A glob env locs n os draw s fun s=>K .normal s)
 | .seq a b,s,K=>code env locs n a s fun
  | .normal,s=>code env locs n b s K
  |ex,s=>K ex s
 | .cond c x y,s,K=>cond (env.join (1000000+loopKey x)) (env.loop X (1000000+loopKey x) s K) ((val glob s.e c).bind fun
  | .bool b=>cond b (code env locs n x (setTmp s c true) K) (code env locs n y (setTmp s c false) K)
  |_=>none)
 | .block id c,s,K=>code env locs n c s fun
  | .exit id',s=>if id'=id then K .normal s else K (.exit id') s
  |ex,s=>K ex s
 | .scope c,s,K=>code env locs n c s K
 | .loop c,s,K=>env.loop X (loopKey c) s K
 | .rangeFunc g ps a b,s,K=>env.loop X (loopKey (.rangeFunc g ps a b)) s K
 | .exit id,s,K=>K (.exit id) s
 | .ret,s,K=>K .ret s
 |_,_,_=>none
def argEnv:List UV->Nat->List (Nat×US)
 |[],_=>[]
 |a::as,i=>(i,.v a)::argEnv as (i+1)
def results (s:St):List ResultVar->Option (List UV)
 |[]=>some []
 | .tmp t::rs=>(match get s.e t with| .v .junk=>none| .v a=>some a|_=>none).bind fun a=>(results s rs).bind fun l=>some (a::l)
 | .cell p t::rs=>(load A s t (get s.e p)).bind fun a=>(results s rs).bind fun l=>some (a::l)
def result:List UV->UV
 |[a]=>a
 |l=> .tup l
def gc (base:Nat) (r:UV) (H:UH):UV×UH:=
 let s:=compact [0] ⟨[(0,.v r)],[],H,base⟩
 (match get s.e 0 with| .v x=>x|_=> .junk,s.H)
def fnRun (env:Env) (locs:List Nat) (fn:Func) (sh:Sh) (fz:Bool) (args:List UV) (H:UH) (K:UV->UH->Option X):Option X:=
 match fn.body with
 |none=>none
 |some c=>
  if args.length<=fn.ntmps then
   code A glob env locs fn.ntmps c ⟨argEnv args 0,[],H,H.bl.length⟩ fun
    | .exit _,_=>none
    |_,s=>(results A s fn.results.toList).bind fun l=>(mold 8 fz sh.inner (result l) s.H).bind fun (r,H1)=>if (!fz||closedR 8 r)&&decide (H1.wm<=H.bl.length) then K (gc H.bl.length r (killB sh.kills H1)).1 (gc H.bl.length r (killB sh.kills H1)).2 else none
  else none
def putAll:List Nat->List UV->List (Nat×US)->List (Nat×US)
 |p::ps,a::as,e=>putAll ps as ((p,.v a)::e)
 |_,_,e=>e
def envU (e:List (Nat×US)) (ks:List Nat):List (Nat×UV):=ks.map fun i=>(i,match get e i with| .v a=>a|_=> .junk)
def envIn (e:List (Nat×UV)):List (Nat×US):=e.map fun p=>(p.1,US.v p.2)
def rfRun (env:Env) (id n:Nat) (ks:List Nat) (g:Operand) (s:St) (K:V.Ex->St->Option X):Option X:=
 (val glob s.e g).bind fun fv=>
  match fv with
  | .fn f cs=>
   if (match A.fns f with|some fn=>fn.body.isSome|none=>false)&&ks.all (fun i=>decide (i<n)) then
    env.call X (.fn f cs) [.yl s.H.bl.length] (push s.H (.loop id (envU s.e ks) .ready .normal)) fun _ H'=>
     match H'.bl[s.H.bl.length]? with
     |some (.loop _ _ st pe)=>(match st with| .busy=>none|_=>K pe { s with H:=setBl H' s.H.bl.length .dead })
     |_=>none
   else none
  |_=>none
def ylRun (env:Env) (id:Nat) (r:RFn) (args:List UV) (H:UH) (K:UV->UH->Option X):Option X:=
 match args with
 | .yl b::as=>
  match H.bl[b]? with
  |some (.loop id' e .ready _)=>
   if id'=id/\as.length=r.ps.length/\H.wm<=b/\r.ps.all (fun p=>decide (p<r.n))=true then
    code A glob env [] r.n r.assign ⟨putAll r.ps as (envIn e),[],H,H.bl.length⟩ fun
     | .normal,s=>
      match s.H.bl[b]? with
      |some (.loop id1 e1 .ready pe1)=>
       code A glob env [] r.n r.body { s with H:=setBl s.H b (.loop id1 e1 .busy pe1) } fun ex s2=>
        match s2.H.bl[b]? with
        |some (.loop id2 e2 _ _)=>
         if s2.H.wm<=H.bl.length then
          K (.bool ex.isNormal) (gc H.bl.length (.bool ex.isNormal) (setBl s2.H b (.loop id2 e2 (if ex.isNormal then .ready else .done) ex))).2
         else none
        |_=>none
      |_=>none
     |_,_=>none
   else none
  |_=>none
 |_=>none
abbrev Spec:=(X:Type)->List UV->UH->(UV->UH->Option X)->Option X
def disp:List (FuncId×Spec)->FuncId->Spec
 |[],_,_,_,_,_=>none
 |(f,g)::l,f',X,args,H,K=>if f'=f then g X args H K else disp l f' X args H K
def callAt (spec:(X:Type)->UV->List UV->UH->(UV->UH->Option X)->Option X) (fv:UV) (args:List UV) (H:UH) (K:UV->UH->Option X):Option X:=
 let bs0:=(reach H 64 ((fv::args).flatMap (ids 8)) []).filter (fun b=>liveB (H.bl.getD b .dead))
 let lo:=bs0.filter (fun b=>decide (b<H.wm))
 let bs:=lo++bs0.filter (fun b=>decide (H.wm<=b))
 let φ:=fun b=>pos b bs 0
 spec X (ren φ 8 fv) (args.map (ren φ 8)) ⟨bs.map fun b=>renB φ (H.bl.getD b .dead),lo.length⟩ fun r H1=>
  let news:=(reach H1 64 (List.range bs.length++ids 8 r) []).filter (fun b=>decide (bs.length<=b))
  let ψ:=fun b=>if b<bs.length then bs[b]? else (pos b news 0).map (H.bl.length+ ·)
  K (ren ψ 8 r) ⟨(List.range H.bl.length).map (fun b=>match φ b with|some j=>renB ψ (H1.bl.getD j .dead)|none=>H.bl.getD b .dead)++news.map (fun b=>renB ψ (H1.bl.getD b .dead)),H.wm⟩
def callsOf (l:List (FuncId×Spec)) (X:Type) (fv:UV) (args:List UV) (H:UH) (K:UV->UH->Option X):Option X:=
 callAt (fun X fv args H K=>match fv with| .fn f cs=>disp l f X (args++cs) H K|_=>none) fv args H K
def callsY (l ly:List (FuncId×Spec)) (X:Type) (fv:UV) (args:List UV) (H:UH) (K:UV->UH->Option X):Option X:=
 callAt (fun X fv args H K=>
  match fv with
  | .fn f cs=>disp l f X (args++cs) H K
  | .yl b=>(match H.bl[b]? with|some (.loop id _ _ _)=>disp ly id X (.yl b::args) H K|_=>none)
  |_=>none) fv args H K
end
end Go.U
namespace Go.U
open Go
structure Mp where
 ι:Nat->Nat->Option Nat
 len:Nat->Nat->Nat
 top:Nat
inductive RV (m:Mp):UV->V.AV->Prop
 |junk (a:V.AV):RV m .junk a
 |bool (b:Bool):RV m (.bool b) (.bool b)
 |int (k:IntKind) (n:Int):RV m (.int k n) (.int k n)
 |str (s:ByteArray):RV m (.str s) (.str s)
 |nilp:RV m .nilp .nilp
 |ptr (b c x:Nat):m.ι b 0=some x->RV m (.ptr b c) (.ptr x 0 c)
 |pel (b r c x:Nat):m.ι b 0=some x->r<m.len b 0->RV m (.pel b r c) (.ptr x r c)
 |eptr (row:List UV) (row':List V.AV):row'.length=row.length->(∀ x∈row,closed 8 x=true)->
  (∀ (c:Nat) (x:UV) (a:V.AV),row[c]?=some x->row'[c]?=some a->RV m x a)->RV m (.eptr row) (.eptr row')
 |nils:RV m .nils .nils
 |emp:RV m .emp .emp
 |sl (b r n x:Nat):m.ι b 0=some x->r+n<=m.len b 0->RV m (.sl b r n) (.sl x r n)
 |sl0 (b r:Nat) (a:V.AV):a= .nils\/a= .emp->RV m (.sl b r 0) a
 |all (b x:Nat):m.ι b 0=some x->RV m (.all b) (.sl x 0 (m.len b 0))
 |all0 (b:Nat) (a:V.AV):b<m.top->m.len b 0=0->a= .nils\/a= .emp->RV m (.all b) a
 |dsl (b r x:Nat):m.ι b (r+1)=some x->RV m (.dsl b r) (.sl x 0 (m.len b (r+1)))
 |dsl0 (b r:Nat) (a:V.AV):b<m.top->m.len b (r+1)=0->a= .nils\/a= .emp->RV m (.dsl b r) a
 |dpl (b r j c x:Nat):m.ι b (r+1)=some x->j<m.len b (r+1)->RV m (.dpl b r j c) (.ptr x j c)
 |lit (c:CT) (l:List (CellT c)) (rows:List (List V.AV)):rows.length=l.length->
  (∀ (i:Nat) (row:List V.AV),rows[i]?=some row->row.length=width c)->
  (∀ (i:Nat) (row:List V.AV) (k:Nat) (x:UV) (a:V.AV),rows[i]?=some row->(vw c l i)[k]?=some x->row[k]?=some a->RV m x a)->RV m (.lit c l) (.lit (width c) rows)
 |lit0 (c:CT) (a:V.AV):a= .nils\/a= .emp->RV m (.lit c []) a
 |nilm:RV m .nilm .nilm
 |mp (b x:Nat):m.ι b 0=some x->RV m (.mp b) (.mp x)
 |nilf:RV m .nilf .nilf
 |fn (f:FuncId) (cs:List UV) (as:List V.AV):as.length=cs.length->(∀ (i:Nat) (x:UV) (a:V.AV),cs[i]?=some x->as[i]?=some a->RV m x a)->RV m (.fn f cs) (.fn f as)
 |yl (b x:Nat):m.ι b 0=some x->RV m (.yl b) (.yl x)
 |nili:RV m .nili .nili
 |agg (cs:List UV) (as:List V.AV):as.length=cs.length->(∀ (i:Nat) (x:UV) (a:V.AV),cs[i]?=some x->as[i]?=some a->RV m x a)->RV m (.agg cs) (.agg as)
 |tup (cs:List UV) (as:List V.AV):as.length=cs.length->(∀ (i:Nat) (x:UV) (a:V.AV),cs[i]?=some x->as[i]?=some a->RV m x a)->RV m (.tup cs) (.tup as)
def RL (m:Mp) (xs:List UV) (as:List V.AV):Prop:=as.length=xs.length/\∀ (i:Nat) (x:UV) (a:V.AV),xs[i]?=some x->as[i]?=some a->RV m x a
structure Mp.Le (m m':Mp):Prop where
 of:∀ b {s} x,m.ι b s=some x->m'.ι b s=some x/\m'.len b s=m.len b s
 top:m.top<=m'.top
 len:∀ b,b<m.top->m'.len b=m.len b
theorem Mp.Le.refl (m:Mp):m.Le m:=⟨fun _ _ _ h=>⟨h,rfl⟩,Nat.le_refl _,fun _ _=>rfl⟩
theorem Mp.Le.trans {m m' m'':Mp} (h:m.Le m') (h':m'.Le m''):m.Le m'':=⟨fun b _ x hb=>⟨(h'.of b x (h.of b x hb).1).1,(h'.of b x (h.of b x hb).1).2.trans (h.of b x hb).2⟩,Nat.le_trans h.top h'.top,fun b hb=>(h'.len b (Nat.lt_of_lt_of_le hb h.top)).trans (h.len b hb)⟩
theorem enc_length:∀ (c:CT) (x:CellT c),(enc c x).length=width c
 | .bool,_=>rfl
 | .int _,_=>rfl
 | .str,_=>rfl
 | .slice _,_=>rfl
 | .pair a b,(x,y)=>by simp [enc,width,enc_length a x,enc_length b y]
theorem enc_closed:∀ (c:CT) (x:CellT c) (v:UV),v∈enc c x->closed 8 v=true
 | .bool,_,v,h=>by simp [enc] at h;subst h;rfl
 | .int _,_,v,h=>by simp [enc] at h;subst h;rfl
 | .str,_,v,h=>by simp [enc] at h;subst h;rfl
 | .slice _,_,v,h=>by simp [enc] at h;subst h;rfl
 | .pair a b,(x,y),v,h=>by
  simp only [enc,List.mem_append] at h;rcases h with h|h
  · exact enc_closed a x v h
  · exact enc_closed b y v h
theorem vw_length (c:CT) (l:List (CellT c)) (i:Nat):(vw c l i).length=width c:=enc_length c _
theorem vw_closed (c:CT) (l:List (CellT c)) (i:Nat) (v:UV) (h:v∈vw c l i):closed 8 v=true:=enc_closed c _ v h
theorem RV.mono {m m':Mp} (h:m.Le m') {x:UV} {a:V.AV} (hx:RV m x a):RV m' x a:=by
 induction hx with
 |junk a=>exact .junk a
 |bool b=>exact .bool b
 |int k n=>exact .int k n
 |str s=>exact .str s
 |nilp=>exact .nilp
 |ptr b c x hb=>exact .ptr b c x (h.of b x hb).1
 |pel b r c x hb hr=>exact .pel b r c x (h.of b x hb).1 (by rw [(h.of b x hb).2];exact hr)
 |eptr row row' hl hc _ ih=>exact .eptr row row' hl hc ih
 |nils=>exact .nils
 |emp=>exact .emp
 |sl b r n x hb hr=>exact .sl b r n x (h.of b x hb).1 (by rw [(h.of b x hb).2];exact hr)
 |sl0 b r a ha=>exact .sl0 b r a ha
 |all b x hb=>rw [<- (h.of b x hb).2];exact .all b x (h.of b x hb).1
 |all0 b a hb hl ha=>exact .all0 b a (Nat.lt_of_lt_of_le hb h.top) (by rw [h.len b hb];exact hl) ha
 |dsl b r x hb=>rw [<- (h.of b x hb).2];exact .dsl b r x (h.of b x hb).1
 |dsl0 b r a hb hl ha=>exact .dsl0 b r a (Nat.lt_of_lt_of_le hb h.top) (by rw [h.len b hb];exact hl) ha
 |dpl b r j c x hb hr=>exact .dpl b r j c x (h.of b x hb).1 (by rw [(h.of b x hb).2];exact hr)
 |lit c l rows h1 h2 _ ih=>exact .lit c l rows h1 h2 ih
 |lit0 c a ha=>exact .lit0 c a ha
 |nilm=>exact .nilm
 |mp b x hb=>exact .mp b x (h.of b x hb).1
 |nilf=>exact .nilf
 |fn f cs as hl _ ih=>exact .fn f cs as hl ih
 |yl b x hb=>exact .yl b x (h.of b x hb).1
 |nili=>exact .nili
 |agg cs as hl _ ih=>exact .agg cs as hl ih
 |tup cs as hl _ ih=>exact .tup cs as hl ih
theorem RL.mono {m m':Mp} (h:m.Le m') {xs:List UV} {as:List V.AV} (hx:RL m xs as):RL m' xs as:=⟨hx.1,fun i x a h1 h2=>(hx.2 i x a h1 h2).mono h⟩
theorem RV.free {m:Mp} (m':Mp) {x:UV} {a:V.AV} (hx:RV m x a):∀ d,closed d x=true->RV m' x a:=by
 induction hx with
 |junk a=>intro d hd;cases d<;>simp [closed] at hd
 |bool b=>intro _ _;exact .bool b
 |int k n=>intro _ _;exact .int k n
 |str s=>intro _ _;exact .str s
 |nilp=>intro _ _;exact .nilp
 |ptr b c x hb=>intro d hd;cases d<;>simp [closed] at hd
 |pel b r c x hb hr=>intro d hd;cases d<;>simp [closed] at hd
 |eptr row row' hl hc _ ih=>intro _ _;exact .eptr row row' hl hc fun c x a h1 h2=>ih c x a h1 h2 8 (hc x (List.mem_of_getElem? h1))
 |nils=>intro _ _;exact .nils
 |emp=>intro _ _;exact .emp
 |sl b r n x hb hr=>intro d hd;cases d<;>simp [closed] at hd
 |sl0 b r a ha=>intro d hd;cases d<;>simp [closed] at hd
 |all b x hb=>intro d hd;cases d<;>simp [closed] at hd
 |all0 b a hb hl ha=>intro d hd;cases d<;>simp [closed] at hd
 |dsl b r x hb=>intro d hd;cases d<;>simp [closed] at hd
 |dsl0 b r a hb hl ha=>intro d hd;cases d<;>simp [closed] at hd
 |dpl b r j c x hb hr=>intro d hd;cases d<;>simp [closed] at hd
 |lit c l rows h1 h2 _ ih=>intro _ _;exact .lit c l rows h1 h2 fun i row k x a k1 k2 k3=>ih i row k x a k1 k2 k3 8 (vw_closed c l i x (List.mem_of_getElem? k2))
 |lit0 c a ha=>intro _ _;exact .lit0 c a ha
 |nilm=>intro _ _;exact .nilm
 |mp b x hb=>intro d hd;cases d<;>simp [closed] at hd
 |nilf=>intro _ _;exact .nilf
 |fn f cs as hl _ ih=>
  intro d hd;cases d with
  |zero=>simp [closed] at hd
  |succ d=>exact .fn f cs as hl fun i x a h1 h2=>ih i x a h1 h2 d (List.all_eq_true.1 (by simpa [closed] using hd) x (List.mem_of_getElem? h1))
 |yl b x hb=>intro d hd;cases d<;>simp [closed] at hd
 |nili=>intro _ _;exact .nili
 |agg cs as hl _ ih=>intro d hd;cases d<;>simp [closed] at hd
 |tup cs as hl _ ih=>intro d hd;cases d<;>simp [closed] at hd
theorem RV.freeR {m:Mp} (m':Mp):∀ (d:Nat) {x:UV} {a:V.AV},RV m x a->closedR d x=true->RV m' x a
 |0,x,a,_,hd=>by simp [closedR] at hd
 |d+1,x,a,hx,hd=>by
  cases x with
  |agg cs=>
   cases hx with
   |agg _ as hl hr=>exact .agg cs as hl fun i x a h1 h2=>RV.freeR m' d (hr i x a h1 h2) (List.all_eq_true.1 (by simpa [closedR] using hd) x (List.mem_of_getElem? h1))
  |tup cs=>
   cases hx with
   |tup _ as hl hr=>exact .tup cs as hl fun i x a h1 h2=>RV.freeR m' d (hr i x a h1 h2) (List.all_eq_true.1 (by simpa [closedR] using hd) x (List.mem_of_getElem? h1))
  |_=>exact hx.free m' 8 (by simpa [closedR] using hd)
theorem RV.ren {m m':Mp} {φ:Nat->Option Nat} (h:∀ b b',φ b=some b'->m'.ι b'=m.ι b/\m'.len b'=m.len b/\b'<m'.top):∀ (d:Nat) {x:UV} {a:V.AV},RV m x a->RV m' (U.ren φ d x) a
 |0,x,a,_=> .junk a
 |d+1,x,a,hx=>by
  cases hx with
  |junk a=>exact .junk a
  |bool b=>exact .bool b
  |int k n=>exact .int k n
  |str s=>exact .str s
  |nilp=>exact .nilp
  |ptr b c x hb=>
   simp only [U.ren];split
   · rename_i b' hb';exact .ptr b' c x (by rw [(h b b' hb').1];exact hb)
   · exact .junk _
  |pel b r c x hb hr=>
   simp only [U.ren];split
   · rename_i b' hb';exact .pel b' r c x (by rw [(h b b' hb').1];exact hb) (by rw [(h b b' hb').2.1];exact hr)
   · exact .junk _
  |eptr row row' hl hc hr=>exact RV.free m' (.eptr row row' hl hc hr) 1 rfl
  |nils=>exact .nils
  |emp=>exact .emp
  |sl b r n x hb hr=>
   simp only [U.ren];split
   · rename_i b' hb';exact .sl b' r n x (by rw [(h b b' hb').1];exact hb) (by rw [(h b b' hb').2.1];exact hr)
   · exact .junk _
  |sl0 b r a ha=>
   simp only [U.ren];split
   · exact .sl0 _ r a ha
   · exact .junk _
  |all b x hb=>
   simp only [U.ren];split
   · rename_i b' hb';rw [<- (h b b' hb').2.1];exact .all b' x (by rw [(h b b' hb').1];exact hb)
   · exact .junk _
  |all0 b a hb hl ha=>
   simp only [U.ren];split
   · rename_i b' hb';exact .all0 b' a (h b b' hb').2.2 (by rw [(h b b' hb').2.1];exact hl) ha
   · exact .junk _
  |dsl b r x hb=>
   simp only [U.ren];split
   · rename_i b' hb';rw [<- (h b b' hb').2.1];exact .dsl b' r x (by rw [(h b b' hb').1];exact hb)
   · exact .junk _
  |dsl0 b r a hb hl ha=>
   simp only [U.ren];split
   · rename_i b' hb';exact .dsl0 b' r a (h b b' hb').2.2 (by rw [(h b b' hb').2.1];exact hl) ha
   · exact .junk _
  |dpl b r j c x hb hr=>
   simp only [U.ren];split
   · rename_i b' hb';exact .dpl b' r j c x (by rw [(h b b' hb').1];exact hb) (by rw [(h b b' hb').2.1];exact hr)
   · exact .junk _
  |lit c l rows h1 h2 h3=>exact RV.free m' (.lit c l rows h1 h2 h3) 1 rfl
  |lit0 c a ha=>exact .lit0 c a ha
  |nilm=>exact .nilm
  |mp b x hb=>
   simp only [U.ren];split
   · rename_i b' hb';exact .mp b' x (by rw [(h b b' hb').1];exact hb)
   · exact .junk _
  |nilf=>exact .nilf
  |fn f cs as hl hr=>
   refine .fn f _ as (by simp [hl]) fun i x a h1 h2=> ?_
   rw [List.getElem?_map,Option.map_eq_some_iff] at h1;obtain ⟨y,hy,rfl⟩:=h1;exact RV.ren h d (hr i y a hy h2)
  |yl b x hb=>
   simp only [U.ren];split
   · rename_i b' hb';exact .yl b' x (by rw [(h b b' hb').1];exact hb)
   · exact .junk _
  |nili=>exact .nili
  |agg cs as hl hr=>
   refine .agg _ as (by simp [hl]) fun i x a h1 h2=> ?_
   rw [List.getElem?_map,Option.map_eq_some_iff] at h1;obtain ⟨y,hy,rfl⟩:=h1;exact RV.ren h d (hr i y a hy h2)
  |tup cs as hl hr=>
   refine .tup _ as (by simp [hl]) fun i x a h1 h2=> ?_
   rw [List.getElem?_map,Option.map_eq_some_iff] at h1;obtain ⟨y,hy,rfl⟩:=h1;exact RV.ren h d (hr i y a hy h2)
variable [TB:Tbl]
def RRows (m:Mp) (z n:Nat) (f:Nat->List UV) (rows:List (List V.AV)):Prop:=
 (∀ i,i<n->(f i).length=z/\∀ x∈f i,closed 8 x=true)/\(∀ (i:Nat) (row:List V.AV),i<n->rows[i]?=some row->row.length=z)/\
 ∀ (i:Nat) (row:List V.AV) (c:Nat) (x:UV) (a:V.AV),i<n->rows[i]?=some row->(f i)[c]?=some x->row[c]?=some a->RV m x a
def keyAV:(k:KT)->KeyT k->V.AV
 | .int k,i=> .int k i
 | .str,s=> .str s
def MR (k:KT) (m:Mp):List (KeyT k×UV)->List (V.AV×V.AV)->Prop
 |[],[]=>True
 |(i,v)::es,(key,a)::es'=>key=keyAV k i/\RV m v a/\closedR 8 v=true/\MR k m es es'
 |_,_=>False
def mapEs {k:KT} (g:Bool) (c:CT) (l:List (KeyT k×CellT c)):List (KeyT k×UV):=l.map fun p=>(p.1,valOf g c p.2)
def RowIs (m:Mp) (Hv:V.AH) (o:Option Nat) (c:CT) (l:List (CellT c)) (a:V.AV):Prop:=
 (l.length=0/\o=none/\(a= .nils\/a= .emp))\/
  ∃ y rows ty,o=some y/\a= .sl y 0 l.length/\Hv.bl[y]?=some (.cells rows (width c) ty)/\l.length<=rows.length/\RRows m (width c) l.length (vw c l) rows
def RB (m:Mp) (Hv:V.AH) (b:Nat):UB->Prop
 | .dead=>True
 | .opn row=>∃ x row' ty,m.ι b 0=some x/\Hv.bl[x]?=some (.cells [row'] row'.length ty)/\RL m row row'
 | .cells c l=>m.len b 0=l.length/\((l.length=0/\m.ι b 0=none)\/∃ x rows ty,m.ι b 0=some x/\Hv.bl[x]?=some (.cells rows (width c) ty)/\l.length<=rows.length/\RRows m (width c) l.length (vw c l) rows)
 | .deep c l=>m.len b 0=l.length/\(∀ r,m.len b (r+1)=(l.getD r []).length/\(l.length<=r->m.ι b (r+1)=none))/\((l.length=0/\m.ι b 0=none)\/∃ x rows ty,m.ι b 0=some x/\Hv.bl[x]?=some (.cells rows 1 ty)/\l.length<=rows.length/\
  ∀ r,r<l.length->∃ a,rows[r]?=some [a]/\RowIs m Hv (m.ι b (r+1)) c (l.getD r []) a)
 | .mapL k es=>∃ x es',m.ι b 0=some x/\Hv.bl[x]?=some (.map es')/\MR k m es es'
 | .mapT k g c l=>∃ x es',m.ι b 0=some x/\Hv.bl[x]?=some (.map es')/\MR k m (mapEs g c l) es'
 | .loop id env st pe=>∃ x env',m.ι b 0=some x/\Hv.bl[x]?=some (.loop (TB.rf id).n (List.range (TB.rf id).n) env' (TB.rf id).ps (TB.rf id).assign (TB.rf id).body st pe.jump)/\∀ t,match get (envIn env) t,V.get (V.envIn env') t with
   | .v y,.v a=>RV m y a
   |_,_=>False
 | .bld q=>∃ x p q',m.ι b 0=some x/\Hv.bl[x]?=some (.cells [[p,q']] 2 (some (TB.bT,2)))/\(p= .nilp\/p= .ptr x 0 0)/\RV m q q'/\q'≠ .emp
 | .byt s=>m.len b 0=s.size/\((s.size=0/\m.ι b 0=none)\/∃ x,m.ι b 0=some x/\Hv.bl[x]?=some (.cells (V.byteRows s) 1 (some (TB.uT,1)))/\0<s.size/\s.size<=70368744177664)
def live (H:UH) (b:Nat):Prop:=∃ x,H.bl[b]?=some x/\liveB x=true
structure RH (m:Mp) (H:UH) (Hv:V.AH):Prop where
 dom:∀ b {s} x,m.ι b s=some x->b<H.bl.length/\x<Hv.bl.length
 blk:∀ b y,H.bl[b]?=some y->RB m Hv b y
 inj':∀ b b' {s s'} x,live H b->live H b'->m.ι b s=some x->m.ι b' s'=some x->b=b'/\s=s'
 wm:∀ b {s} x,m.ι b s=some x->H.wm<=b->Hv.wm<=x
 top:Hv.wm<=Hv.bl.length
 len:m.top=H.bl.length
theorem RH.inj {m:Mp} {H:UH} {Hv:V.AH} (h:RH m H Hv) (b b':Nat) {s s':Nat} (x:Nat) (h1:live H b) (h2:live H b') (h3:m.ι b s=some x) (h4:m.ι b' s'=some x):b=b':=(h.inj' b b' x h1 h2 h3 h4).1
def Old (n:Nat) (m m':Mp):Prop:=n<=m'.top/\∀ b,b<n->m'.ι b=m.ι b/\m'.len b=m.len b
structure Go' (n:Nat) (m:Mp) (Hv:V.AH) (m':Mp) (Hv':V.AH):Prop where
 old:Old n m m'
 stay:∀ x,x<Hv.bl.length->(∀ b s,m.ι b s≠some x)->Hv'.bl[x]?=Hv.bl[x]?
 new:∀ b {s} x,m'.ι b s=some x->(∃ b0 s0,m.ι b0 s0=some x)\/Hv.bl.length<=x
 len:Hv.bl.length<=Hv'.bl.length
 wm:Hv'.wm=Hv.wm
theorem Old.refl {n:Nat} {m:Mp} (h:n<=m.top):Old n m m:=⟨h,fun _ _=>⟨rfl,rfl⟩⟩
theorem Old.trans {n n':Nat} {m m1 m2:Mp} (h:Old n m m1) (h':Old n' m1 m2) (hn:n<=n'):Old n m m2:=⟨Nat.le_trans hn h'.1,fun b hb=>⟨(h'.2 b (by omega)).1.trans (h.2 b hb).1,(h'.2 b (by omega)).2.trans (h.2 b hb).2⟩⟩
theorem Old.less {n n':Nat} {m m1:Mp} (h:Old n m m1) (hn:n'<=n):Old n' m m1:=⟨Nat.le_trans hn h.1,fun b hb=>h.2 b (by omega)⟩
theorem Go'.refl {n:Nat} {m:Mp} (Hv:V.AH) (hn:n<=m.top):Go' n m Hv m Hv:=⟨.refl hn,fun _ _ _=>rfl,fun b _ x h=> .inl ⟨b,_,h⟩,Nat.le_refl _,rfl⟩
theorem Go'.less {n n':Nat} {m m1:Mp} {H H1:V.AH} (h:Go' n m H m1 H1) (hn:n'<=n):Go' n' m H m1 H1:=⟨h.old.less hn,h.stay,h.new,h.len,h.wm⟩
theorem Go'.trans {n n':Nat} {m m1 m2:Mp} {H H1 H2:V.AH} (h:Go' n m H m1 H1) (h':Go' n' m1 H1 m2 H2) (hn:n<=n'):Go' n m H m2 H2 where
 old:=h.old.trans h'.old hn
 stay x hx hn:=(h'.stay x (Nat.lt_of_lt_of_le hx h.len) fun b s hb=>by
  rcases h.new b x hb with ⟨b0,s0,h0⟩|h0
  · exact hn b0 s0 h0
  · omega).trans (h.stay x hx hn)
 new b s x hb:=by
  rcases h'.new b x hb with ⟨b0,s0,h0⟩|h0
  · exact h.new b0 x h0
  · exact .inr (Nat.le_trans h.len h0)
 len:=Nat.le_trans h.len h'.len
 wm:=h'.wm.trans h.wm
def RS (m:Mp) (φ:Nat->Option Nat):US->V.SV->Prop
 | .v .junk,_=>True
 | .v x,.v a=>RV m x a
 | .loc i c,.loc j c'=>φ i=some j/\c'=c
 |_,_=>False
structure RF (m:Mp) (φ:Nat->Option Nat) (F:List (List UV)) (Fv:List (List V.AV)):Prop where
 dom:∀ i j,φ i=some j->i<F.length/\j<Fv.length
 row:∀ i row,F[i]?=some row->∃ j row',φ i=some j/\Fv[j]?=some row'/\RL m row row'
 inj:∀ i i' j,φ i=some j->φ i'=some j->i=i'
def RE (m:Mp) (φ:Nat->Option Nat) (e:List (Nat×US)) (ev:List (Nat×V.SV)):Prop:=∀ t,RS m φ (get e t) (V.get ev t)
structure Rst (m:Mp) (φ:Nat->Option Nat) (s:St) (sv:V.S):Prop where
 h:RH m s.H sv.H
 f:RF m φ s.F sv.F
 e:RE m φ s.e sv.e
 b:s.base<=s.H.bl.length
end Go.U
namespace Go.U
open Go
variable [TB:Tbl]
theorem getElem?_lt {α:Type} {l:List α} {i:Nat} {x:α} (h:l[i]?=some x):i<l.length:=by
 rcases Nat.lt_or_ge i l.length with h'|h'
 · exact h'
 · simp [List.getElem?_eq_none h'] at h
section
variable {A:V.Par} {glob:Nat->Option (List UV)} {m:Mp} {φ:Nat->Option Nat}
def GlobOK (A:V.Par) (glob:Nat->Option (List UV)):Prop:=∀ i row,glob i=some row->∃ row',A.glob i=some row'/\∀ m,RV m (.eptr row) (.eptr row')
theorem const_sim {v:Value} {x:UV} (h:constUV v=some x):∃ a,V.constAV v=some a/\∀ m,RV m x a:=by
 unfold constUV at h;split at h<;>simp at h<;>subst h
 · exact ⟨_,rfl,fun _=> .bool _⟩
 · exact ⟨_,rfl,fun _=> .int _ _⟩
 · exact ⟨_,rfl,fun _=> .str _⟩
 · exact ⟨_,rfl,fun _=> .nilp⟩
 · exact ⟨_,rfl,fun _=> .nils⟩
 · exact ⟨_,rfl,fun _=> .nilm⟩
 · exact ⟨_,rfl,fun _=> .nilf⟩
 · exact ⟨_,rfl,fun _=> .nili⟩
theorem const_closed {v:Value} {x:UV} (h:constUV v=some x):closed 8 x=true:=by
 unfold constUV at h;split at h<;>simp at h<;>subst h<;>rfl
theorem const_closedR {v:Value} {x:UV} (h:constUV v=some x):closedR 8 x=true:=by
 unfold constUV at h;split at h<;>simp at h<;>subst h<;>rfl
theorem RL.nil {m:Mp}:RL m [] []:=⟨rfl,fun i x a h=>by simp at h⟩
theorem RL.cons {m:Mp} {x:UV} {a:V.AV} {xs:List UV} {as:List V.AV} (h:RV m x a) (hs:RL m xs as):RL m (x::xs) (a::as):=
 ⟨by simp [hs.1],fun i y b h1 h2=>by
  cases i with
  |zero=>simp at h1 h2;subst h1;subst h2;exact h
  |succ i=>exact hs.2 i y b (by simpa using h1) (by simpa using h2)⟩
theorem RL.get {m:Mp} {xs:List UV} {as:List V.AV} (h:RL m xs as) {i:Nat} {x:UV} (hx:xs[i]?=some x):∃ a,as[i]?=some a/\RV m x a:=by
 have:=getElem?_lt hx;have ha:=List.getElem?_eq_getElem (l:=as) (i:=i) (by rw [h.1];exact this);exact ⟨_,ha,h.2 i x _ hx ha⟩
theorem RL.drop {m:Mp} {xs:List UV} {as:List V.AV} (h:RL m xs as) (n:Nat):RL m (xs.drop n) (as.drop n):=
 ⟨by simp [h.1],fun i x a h1 h2=>h.2 (n+i) x a (by simpa [List.getElem?_drop] using h1) (by simpa [List.getElem?_drop] using h2)⟩
theorem RL.take {m:Mp} {xs:List UV} {as:List V.AV} (h:RL m xs as) (n:Nat):RL m (xs.take n) (as.take n):=
 ⟨by simp [h.1],fun i x a h1 h2=>by
  rw [List.getElem?_take] at h1 h2;split at h1
  · rename_i hi;rw [if_pos hi] at h2;exact h.2 i x a h1 h2
  · simp at h1⟩
theorem RL.append {m:Mp} {xs ys:List UV} {as bs:List V.AV} (h:RL m xs as) (h':RL m ys bs):RL m (xs++ys) (as++bs):=
 ⟨by simp [h.1,h'.1],fun i x a h1 h2=>by
  rcases Nat.lt_or_ge i xs.length with hi|hi
  · rw [List.getElem?_append_left hi] at h1;rw [List.getElem?_append_left (by rw [h.1];exact hi)] at h2;exact h.2 i x a h1 h2
  · rw [List.getElem?_append_right hi] at h1;rw [List.getElem?_append_right (by rw [h.1];exact hi),h.1] at h2;exact h'.2 _ x a h1 h2⟩
theorem RL.set {m:Mp} {xs:List UV} {as:List V.AV} (h:RL m xs as) (i:Nat) {x:UV} {a:V.AV} (hx:RV m x a):RL m (xs.set i x) (as.set i a):=
 ⟨by simp [h.1],fun j y b h1 h2=>by
  rw [List.getElem?_set] at h1 h2;split at h1
  · rename_i e;rw [if_pos e] at h2;split at h1
    · rename_i hl;rw [if_pos (by rw [h.1];exact hl)] at h2;simp at h1 h2;subst h1;subst h2;exact hx
    · simp at h1
  · rename_i e;rw [if_neg e] at h2;exact h.2 j y b h1 h2⟩
theorem RL.free {m:Mp} (m':Mp) {xs:List UV} {as:List V.AV} (h:RL m xs as) (hc:∀ x∈xs,closed 8 x=true):RL m' xs as:=
 ⟨h.1,fun i x a h1 h2=>(h.2 i x a h1 h2).free m' 8 (hc x (List.mem_of_getElem? h1))⟩
theorem constCells_sim:∀ {vs:List Value} {xs:List UV},constCells vs=some xs->∃ as,V.constCells vs=some as/\(∀ m,RL m xs as)/\∀ x∈xs,closed 8 x=true
 |[],xs,h=>by simp [constCells] at h;subst h;exact ⟨[],rfl,fun _=> .nil,fun x hx=>by simp at hx⟩
 |v::vs,xs,h=>by
  simp only [constCells,Option.bind_eq_some_iff] at h;obtain ⟨x,hx,ys,hys,h⟩:=h;simp at h;subst h;obtain ⟨a,h1,h2⟩:=const_sim hx;obtain ⟨as,h3,h4,h5⟩:=constCells_sim hys;refine ⟨a::as,by simp [V.constCells,h1,h3],fun m=> .cons (h2 m) (h4 m),fun y hy=> ?_⟩;rcases List.mem_cons.1 hy with rfl|hy
  · exact const_closed hx
  · exact h5 y hy
theorem zero_sim {t:TypeId} {z:List UV} (h:zero A t=some z):∃ z',V.zero A t=some z'/\(∀ m,RL m z z')/\∀ x∈z,closed 8 x=true:=by
 unfold zero at h;unfold V.zero;split at h
 · rename_i v hv;rw [hv];exact constCells_sim h
 · simp at h
theorem zeroV_sim {t:TypeId} {z:UV} (h:zeroV A t=some z):∃ z',V.zeroV A t=some z'/\(∀ m,RV m z z')/\closedR 8 z=true:=by
 unfold zeroV at h;unfold V.zeroV;split at h
 · rename_i cs hv;rw [hv];simp only [Option.map_eq_some_iff] at h;obtain ⟨xs,hxs,rfl⟩:=h;unfold constCells at hxs;have hxs':constCells cs.toList=some xs:=by unfold constCells;exact hxs
   obtain ⟨as,h1,h2,h3⟩:=constCells_sim hxs';refine ⟨.agg as,by simp [h1],fun m=> .agg _ _ (h2 m).1 (h2 m).2,?_⟩;simp only [closedR,List.all_eq_true];intro x hx;have h8:=h3 x hx;obtain ⟨i,hi⟩:=List.getElem?_of_mem hx;have hcc:∀ {vs:List Value} {xs:List UV},constCells vs=some xs->∀ x∈xs,closedR 7 x=true:=by
    intro vs;induction vs with
    |nil=>intro xs h x hx;simp [constCells] at h;subst h;simp at hx
    |cons v vs ih=>
     intro xs h x hx;simp only [constCells,Option.bind_eq_some_iff] at h;obtain ⟨y,hy,ys,hys,h⟩:=h;simp at h;subst h;rcases List.mem_cons.1 hx with rfl|hx
     · unfold constUV at hy;split at hy<;>simp at hy<;>subst hy<;>rfl
     · exact ih hys x hx
   exact hcc hxs' x hx
 · rename_i v hne hv;obtain ⟨a,h1,h2⟩:=const_sim h;refine ⟨a,?_,h2,const_closedR h⟩;rw [hv];cases v<;>first|exact h1|(exfalso;exact hne _ rfl)
 · simp at h
theorem operand_sim (hg:GlobOK A glob) {e:List (Nat×US)} {ev:List (Nat×V.SV)} {x:Operand} {v:US} (h:operand glob e x=some v) (he:RE m φ e ev):∃ vv,V.operand A ev x=some vv/\RS m φ v vv:=by
 have up:∀ {y:UV} {a:V.AV},RV m y a->RS m φ (.v y) (.v a):=fun {y a} h=>by cases y<;>first|trivial|exact h
 cases x with
 |tmp t=>simp [operand] at h;subst h;exact ⟨_,rfl,he t⟩
 |const c=>
  simp only [operand,Option.map_eq_some_iff] at h;obtain ⟨y,hy,rfl⟩:=h;obtain ⟨a,h1,h2⟩:=const_sim hy;exact ⟨.v a,by simp [V.operand,h1],up (h2 m)⟩
 |global i=>
  simp only [operand,Option.map_eq_some_iff] at h;obtain ⟨row,hr,rfl⟩:=h;obtain ⟨row',h1,h2⟩:=hg i row hr;exact ⟨.v (.eptr row'),by simp [V.operand,h1],up (h2 m)⟩
 |func f=>
  simp [operand] at h;subst h;exact ⟨.v (.fn f []),rfl,up (.fn f [] [] rfl fun i x a h=>by simp at h)⟩
theorem RS.val {x:UV} {vv:V.SV} (h:RS m φ (.v x) vv) (hne:x≠ .junk):∃ a,vv= .v a/\RV m x a:=by
 cases vv with
 |v a=>cases x<;>first|exact absurd rfl hne|exact ⟨a,rfl,h⟩
 |loc i c=>cases x<;>first|exact absurd rfl hne|exact h.elim
theorem RV.rs {x:UV} {a:V.AV} (h:RV m x a):RS m φ (.v x) (.v a):=by cases x<;>first|trivial|exact h
theorem val_some {e:List (Nat×US)} {x:Operand} {a:UV} (h:val glob e x=some a):operand glob e x=some (.v a)/\a≠ .junk:=by
 unfold val at h;split at h
 · simp at h
 · rename_i y hne hy;simp at h;subst h;exact ⟨hy,hne⟩
 · simp at h
theorem val_sim (hg:GlobOK A glob) {e:List (Nat×US)} {ev:List (Nat×V.SV)} {x:Operand} {a:UV} (h:val glob e x=some a) (he:RE m φ e ev):∃ a',V.val A ev x=some a'/\RV m a a':=by
 obtain ⟨h1,h2⟩:=val_some h;obtain ⟨vv,h3,h4⟩:=operand_sim hg h1 he;obtain ⟨a',rfl,h5⟩:=h4.val h2;exact ⟨a',by simp [V.val,h3],h5⟩
theorem vals_sim (hg:GlobOK A glob) {e:List (Nat×US)} {ev:List (Nat×V.SV)} (he:RE m φ e ev):∀ {l:List Operand} {as:List UV},vals glob e l=some as->∃ as',V.vals A ev l=some as'/\RL m as as'
 |[],as,h=>by simp [vals] at h;subst h;exact ⟨[],rfl,.nil⟩
 |x::l,as,h=>by
  simp only [vals,Option.bind_eq_some_iff] at h;obtain ⟨a,ha,ys,hys,h⟩:=h;simp at h;subst h;obtain ⟨a',h1,h2⟩:=val_sim hg ha he;obtain ⟨as',h3,h4⟩:=vals_sim hg he hys;exact ⟨a'::as',by simp [V.vals,h1,h3],.cons h2 h4⟩
def RP (m:Mp) (ps:List (Nat×UV)) (qs:List (Nat×V.AV)):Prop:=qs.map (·.1)=ps.map (·.1)/\RL m (ps.map (·.2)) (qs.map (·.2))
theorem parts_sim (hg:GlobOK A glob) {e:List (Nat×US)} {ev:List (Nat×V.SV)} (he:RE m φ e ev):∀ {l:List (Nat×Operand)} {ps:List (Nat×UV)},parts glob e l=some ps->∃ qs,V.parts A ev l=some qs/\RP m ps qs
 |[],ps,h=>by simp [parts] at h;subst h;exact ⟨[],rfl,rfl,.nil⟩
 |(i,x)::l,ps,h=>by
  simp only [parts,Option.bind_eq_some_iff] at h;obtain ⟨a,ha,ys,hys,h⟩:=h;simp at h;subst h;obtain ⟨a',h1,h2⟩:=val_sim hg ha he;obtain ⟨qs,h3,h4,h5⟩:=parts_sim hg he hys;exact ⟨(i,a')::qs,by simp [V.parts,h1,h3],by simp [h4],.cons h2 h5⟩
theorem cells_sim {x:UV} {a:V.AV} {cs:List UV} (h:x.cells?=some cs) (hx:RV m x a):∃ cs',a.cells?=some cs'/\RL m cs cs':=by
 have one:∀ {y:UV} {b:V.AV},RV m y b->cs=[y]->b.cells?=some [b]->∃ cs',b.cells?=some cs'/\RL m cs cs':=fun {y b} h1 h2 h3=>⟨_,h3,by rw [h2];exact .cons h1 .nil⟩
 cases hx with
 |junk a=>simp [UV.cells?] at h
 |tup cs as hl hr=>simp [UV.cells?] at h
 |agg cs as hl hr=>simp [UV.cells?] at h;subst h;exact ⟨as,rfl,hl,hr⟩
 |bool b=>simp [UV.cells?] at h;exact one (.bool b) h.symm rfl
 |int k n=>simp [UV.cells?] at h;exact one (.int k n) h.symm rfl
 |str s=>simp [UV.cells?] at h;exact one (.str s) h.symm rfl
 |nilp=>simp [UV.cells?] at h;exact one .nilp h.symm rfl
 |ptr b c x hb=>simp [UV.cells?] at h;exact one (.ptr b c x hb) h.symm rfl
 |pel b r c x hb hr=>simp [UV.cells?] at h;exact one (.pel b r c x hb hr) h.symm rfl
 |eptr row row' hl hc hr=>simp [UV.cells?] at h;exact one (.eptr row row' hl hc hr) h.symm rfl
 |nils=>simp [UV.cells?] at h;exact one .nils h.symm rfl
 |emp=>simp [UV.cells?] at h;exact one .emp h.symm rfl
 |sl b r n x hb hr=>simp [UV.cells?] at h;exact one (.sl b r n x hb hr) h.symm rfl
 |sl0 b r a ha=>simp [UV.cells?] at h;exact one (.sl0 b r a ha) h.symm (by rcases ha with rfl|rfl<;>rfl)
 |all b x hb=>simp [UV.cells?] at h;exact one (.all b x hb) h.symm rfl
 |all0 b a hb hl ha=>simp [UV.cells?] at h;exact one (.all0 b a hb hl ha) h.symm (by rcases ha with rfl|rfl<;>rfl)
 |dsl b r x hb=>simp [UV.cells?] at h;exact one (.dsl b r x hb) h.symm rfl
 |dsl0 b r a hb hl ha=>simp [UV.cells?] at h;exact one (.dsl0 b r a hb hl ha) h.symm (by rcases ha with rfl|rfl<;>rfl)
 |dpl b r j c x hb hr=>simp [UV.cells?] at h;exact one (.dpl b r j c x hb hr) h.symm rfl
 |lit c l rows h1 h2 h3=>simp [UV.cells?] at h;exact one (.lit c l rows h1 h2 h3) h.symm rfl
 |lit0 c a ha=>simp [UV.cells?] at h;exact one (.lit0 c a ha) h.symm (by rcases ha with rfl|rfl<;>rfl)
 |nilm=>simp [UV.cells?] at h;exact one .nilm h.symm rfl
 |mp b x hb=>simp [UV.cells?] at h;exact one (.mp b x hb) h.symm rfl
 |nilf=>simp [UV.cells?] at h;exact one .nilf h.symm rfl
 |fn f cs' as hl hr=>simp [UV.cells?] at h;exact one (.fn f cs' as hl hr) h.symm rfl
 |yl b x hb=>simp [UV.cells?] at h;exact one (.yl b x hb) h.symm rfl
 |nili=>simp [UV.cells?] at h;exact one .nili h.symm rfl
theorem part_sim {t:TypeId} {row:List UV} {row':List V.AV} {c:Nat} {x:UV} (h:part A t row c=some x) (hr:RL m row row'):∃ a,V.part A t row' c=some a/\RV m x a:=by
 unfold part at h;unfold V.part;cases ha:V.isAgg A t with
 |none=>simp [ha] at h
 |some b=>
  simp only [ha,Option.bind_some] at h ⊢;cases b with
  |true=>
   simp only [Option.bind_eq_some_iff] at h ⊢;obtain ⟨n,hn,h⟩:=h;split at h
   · rename_i hle;simp at h;subst h;refine ⟨.agg ((row'.drop c).take n),⟨n,hn,by rw [if_pos (by rw [hr.1];exact hle)]⟩,.agg _ _ ((hr.drop c).take n).1 ((hr.drop c).take n).2⟩
   · simp at h
  |false=>exact hr.get h
theorem splice_sim {row new row1:List UV} {row' new':List V.AV} {c:Nat} (h:splice row c new=some row1) (hr:RL m row row') (hn:RL m new new'):∃ row1',V.splice row' c new'=some row1'/\RL m row1 row1'/\row1.length=row.length:=by
 unfold splice at h;unfold V.splice;split at h
 · rename_i hle;simp at h;subst h;refine ⟨_,by rw [if_pos (by rw [hn.1,hr.1];exact hle)],?_,by simp;omega⟩;rw [hn.1];exact (hr.take c).append (hn.append (hr.drop _))
 · simp at h
theorem RL.cons' {x:UV} {xs:List UV} {as:List V.AV} (h:RL m (x::xs) as):∃ a as',as=a::as'/\RV m x a/\RL m xs as':=by
 cases as with
 |nil=>have:=h.1;simp at this
 |cons a as=>exact ⟨a,as,rfl,h.2 0 x a rfl rfl,by have:=h.1;simpa using this,fun i y b k1 k2=>h.2 (i+1) y b (by simpa using k1) (by simpa using k2)⟩
theorem dec_sim:∀ (c:CT) (cs:List UV) (x:CellT c) (r:List UV),dec c cs=some (x,r)->∀ {as:List V.AV},RL m cs as->∃ as1 as2,as=as1++as2/\RL m (enc c x) as1/\RL m r as2
 | .bool,[],x,r,h,as,ha=>by simp [dec] at h
 | .bool,v::cs,x,r,h,as,ha=>by
  cases v<;>simp [dec] at h
  obtain ⟨rfl,rfl⟩:=h;obtain ⟨a,as',rfl,h1,h2⟩:=ha.cons';exact ⟨[a],as',rfl,.cons h1 .nil,h2⟩
 | .int k,[],x,r,h,as,ha=>by simp [dec] at h
 | .int k,v::cs,x,r,h,as,ha=>by
  cases v<;>simp [dec] at h
  obtain ⟨rfl,rfl,rfl⟩:=h;obtain ⟨a,as',rfl,h1,h2⟩:=ha.cons';exact ⟨[a],as',rfl,.cons h1 .nil,h2⟩
 | .str,[],x,r,h,as,ha=>by simp [dec] at h
 | .str,v::cs,x,r,h,as,ha=>by
  cases v<;>simp [dec] at h
  obtain ⟨rfl,rfl⟩:=h;obtain ⟨a,as',rfl,h1,h2⟩:=ha.cons';exact ⟨[a],as',rfl,.cons h1 .nil,h2⟩
 | .slice c,[],x,r,h,as,ha=>by simp [dec] at h
 | .slice c,v::cs,x,r,h,as,ha=>by
  obtain ⟨a,as',rfl,h1,h2⟩:=ha.cons';have fin:∀ {x':List (CellT c)},some (x',cs)=some (x,r)->RV m (.lit c x') a->∃ as1 as2,a::as'=as1++as2/\RL m (enc (.slice c) x) as1/\RL m r as2:=fun {x'} he hv=>by
   injection he with he
   injection he with e1 e2
   subst e1;subst e2;exact ⟨[a],as',rfl,.cons hv .nil,h2⟩
  cases v with
  |lit c' l=>
   have h:(if h:c'=c then some ((h ▸ l:List (CellT c)),cs) else none)=some (x,r):=h;split at h
   · rename_i hc;subst hc;exact fin h h1
   · simp at h
  |nils=>exact fin h (by cases h1;exact .lit0 c _ (.inl rfl))
  |emp=>exact fin h (by cases h1;exact .lit0 c _ (.inr rfl))
  |_=>simp [dec] at h
 | .pair a b,cs,x,r,h,as,ha=>by
  simp only [dec,Option.bind_eq_some_iff] at h;obtain ⟨⟨x1,r1⟩,h1,⟨x2,r2⟩,h2,h⟩:=h;simp at h;obtain ⟨rfl,rfl⟩:=h;obtain ⟨as1,as2,rfl,k1,k2⟩:=dec_sim a cs x1 r1 h1 ha;obtain ⟨as3,as4,rfl,k3,k4⟩:=dec_sim b r1 x2 _ h2 k2;exact ⟨as1++as3,as4,(List.append_assoc ..).symm,k1.append k3,k4⟩
theorem dec1_sim {c:CT} {cs:List UV} {x:CellT c} (h:dec1 c cs=some x) {as:List V.AV} (ha:RL m cs as):RL m (enc c x) as:=by
 unfold dec1 at h;split at h
 · rename_i y hy;simp at h;subst h;obtain ⟨as1,as2,rfl,k1,k2⟩:=dec_sim c cs y [] hy ha;have:as2=[]:=by have:=k2.1;simpa using this
   subst this
   simpa using k1
 · simp at h
theorem decL_sim {c:CT}:∀ {rs:List (List UV)} {l:List (CellT c)},decL c rs=some l->l.length=rs.length/\∀ (i:Nat) (r:List UV),rs[i]?=some r->∀ {as:List V.AV},RL m r as->RL m (vw c l i) as
 |[],l,h=>by simp [decL] at h;subst h;exact ⟨rfl,fun i r h=>by simp at h⟩
 |r::rs,l,h=>by
  simp only [decL,Option.bind_eq_some_iff] at h;obtain ⟨x,hx,l',hl,h⟩:=h;simp at h;subst h;obtain ⟨h1,h2⟩:=decL_sim hl;refine ⟨by simp [h1],fun i r' hi as ha=> ?_⟩;cases i with
  |zero=>simp at hi;subst hi;exact dec1_sim hx ha
  |succ i=>exact h2 i r' (by simpa using hi) ha
end
end Go.U
namespace Go.U
open Go
variable [TB:Tbl]
def Mp.addF (m:Mp) (b:Nat) (f:Nat->Option Nat) (g:Nat->Nat):Mp:={ ι:=fun i=>if i=b then f else m.ι i,len:=fun i=>if i=b then g else m.len i,top:=b+1 }
def f0 (x:Option Nat) (s:Nat):Option Nat:=if s=0 then x else none
theorem f0_some {x:Option Nat} {s xv:Nat} (h:f0 x s=some xv):s=0/\x=some xv:=by
 unfold f0 at h;split at h
 · rename_i e;exact ⟨e,h⟩
 · simp at h
def Mp.add (m:Mp) (b:Nat) (x:Option Nat) (n:Nat):Mp:=m.addF b (f0 x) fun _=>n
theorem addF_ι (m:Mp) (b:Nat) (f:Nat->Option Nat) (g:Nat->Nat):(m.addF b f g).ι b=f:=by simp [Mp.addF]
theorem addF_len (m:Mp) (b:Nat) (f:Nat->Option Nat) (g:Nat->Nat):(m.addF b f g).len b=g:=by simp [Mp.addF]
theorem addF_ι_ne (m:Mp) {b b':Nat} (f:Nat->Option Nat) (g:Nat->Nat) (h:b'≠b):(m.addF b f g).ι b'=m.ι b':=by simp [Mp.addF,h]
theorem addF_len_ne (m:Mp) {b b':Nat} (f:Nat->Option Nat) (g:Nat->Nat) (h:b'≠b):(m.addF b f g).len b'=m.len b':=by simp [Mp.addF,h]
theorem add_ι (m:Mp) (b:Nat) (x:Option Nat) (n:Nat):(m.add b x n).ι b 0=x:=by rw [Mp.add,addF_ι];rfl
theorem add_ιs {m:Mp} {b:Nat} {x:Option Nat} {n s xv:Nat} (h:(m.add b x n).ι b s=some xv):s=0/\x=some xv:=by rw [Mp.add,addF_ι] at h;exact f0_some h
theorem add_len (m:Mp) (b:Nat) (x:Option Nat) (n:Nat):(m.add b x n).len b 0=n:=by rw [Mp.add,addF_len]
theorem add_ι_ne (m:Mp) {b b':Nat} (x:Option Nat) (n:Nat) (h:b'≠b):(m.add b x n).ι b'=m.ι b':=addF_ι_ne m _ _ h
theorem add_len_ne (m:Mp) {b b':Nat} (x:Option Nat) (n:Nat) (h:b'≠b):(m.add b x n).len b'=m.len b':=addF_len_ne m _ _ h
section
variable {m:Mp} {H:UH} {Hv Hv':V.AH}
theorem vset_get (Hv:V.AH) (x x':Nat) (y:V.AB):(V.setBl Hv x y).bl[x']?=if x=x' then (if x<Hv.bl.length then some y else none) else Hv.bl[x']?:=by
 simp only [V.setBl,List.getElem?_set]
theorem uset_get (H:UH) (b b':Nat) (y:UB):(setBl H b y).bl[b']?=if b=b' then (if b<H.bl.length then some y else none) else H.bl[b']?:=by
 simp only [setBl,List.getElem?_set]
theorem upush_get (H:UH) (y:UB) (b:Nat):(push H y).bl[b]?=if b<H.bl.length then H.bl[b]? else if b=H.bl.length then some y else none:=by
 simp only [push];rcases Nat.lt_trichotomy b H.bl.length with h|h|h
 · simp [h,List.getElem?_append_left]
 · subst h;simp
 · rw [List.getElem?_append_right (by omega),if_neg (by omega),if_neg (by omega)];exact List.getElem?_eq_none (by simp;omega)
theorem vpush_get (H:V.AH) (y:V.AB) (b:Nat):(V.push H y).bl[b]?=if b<H.bl.length then H.bl[b]? else if b=H.bl.length then some y else none:=by
 simp only [V.push];rcases Nat.lt_trichotomy b H.bl.length with h|h|h
 · simp [h,List.getElem?_append_left]
 · subst h;simp
 · rw [List.getElem?_append_right (by omega),if_neg (by omega),if_neg (by omega)];exact List.getElem?_eq_none (by simp;omega)
theorem MR.mono {k:KT} {m m':Mp} (hle:m.Le m'):∀ {es:List (KeyT k×UV)} {es':List (V.AV×V.AV)},MR k m es es'->MR k m' es es'
 |[],[],_=>trivial
 |(_,_)::_,(_,_)::_,h=>⟨h.1,h.2.1.mono hle,h.2.2.1,h.2.2.2.mono hle⟩
 |[],_::_,h=>h.elim
 |_::_,[],h=>h.elim
theorem RowIs.keep {m m':Mp} {o:Option Nat} {c:CT} {l:List (CellT c)} {a:V.AV} (h:RowIs m Hv o c l a) (hf:∀ x y,closed 8 x=true->RV m x y->RV m' x y) (hst:∀ x,o=some x->Hv'.bl[x]?=Hv.bl[x]?):RowIs m' Hv' o c l a:=by
 rcases h with ⟨h1,h2,h3⟩|⟨y,rows,ty,h1,h2,h3,h4,h5,h6,h7⟩
 · exact .inl ⟨h1,h2,h3⟩
 · exact .inr ⟨y,rows,ty,h1,h2,by rw [hst y h1];exact h3,h4,h5,h6,fun i row c y a k0 k1 k2 k3=>hf y a ((h5 i k0).2 y (List.mem_of_getElem? k2)) (h7 i row c y a k0 k1 k2 k3)⟩
theorem RB.keep {m m':Mp} {b:Nat} {y:UB} (h:RB m Hv b y) (hle:m.Le m') (hι:m'.ι b=m.ι b) (hl:m'.len b=m.len b) (hst:liveB y=true->∀ {s} x,m.ι b s=some x->Hv'.bl[x]?=Hv.bl[x]?):RB m' Hv' b y:=by
 cases y with
 |dead=>trivial
 |opn row=>
  obtain ⟨x,row',ty,h1,h2,h3⟩:=h;exact ⟨x,row',ty,by rw [hι];exact h1,by rw [hst rfl x h1];exact h2,h3.mono hle⟩
 |bld q=>
  obtain ⟨x,p,q',h1,h2,h3,h4,h5⟩:=h;exact ⟨x,p,q',by rw [hι];exact h1,by rw [hst rfl x h1];exact h2,h3,h4.mono hle,h5⟩
 |byt s=>
  obtain ⟨h1,h2⟩:=h;refine ⟨by rw [hl];exact h1,?_⟩;rcases h2 with ⟨h2,h3⟩|⟨x,h2,h3,h4⟩
  · exact .inl ⟨h2,by rw [hι];exact h3⟩
  · exact .inr ⟨x,by rw [hι];exact h2,by rw [hst rfl x h2];exact h3,h4⟩
 |cells c l=>
  obtain ⟨h1,h2⟩:=h;refine ⟨by rw [hl];exact h1,?_⟩;rcases h2 with ⟨h2,h3⟩|⟨x,rows,ty,h2,h3,h4,h5,h6,h7⟩
  · exact .inl ⟨h2,by rw [hι];exact h3⟩
  · exact .inr ⟨x,rows,ty,by rw [hι];exact h2,by rw [hst rfl x h2];exact h3,h4,h5,h6,fun i row c y a k0 k1 k2 k3=>(h7 i row c y a k0 k1 k2 k3).mono hle⟩
 |deep c l=>
  obtain ⟨h1,h0,h2⟩:=h;refine ⟨by rw [hl];exact h1,fun r=>by rw [hl,hι];exact h0 r,?_⟩;rcases h2 with ⟨h2,h3⟩|⟨x,rows,ty,h2,h3,h4,h5⟩
  · exact .inl ⟨h2,by rw [hι];exact h3⟩
  · refine .inr ⟨x,rows,ty,by rw [hι];exact h2,by rw [hst rfl x h2];exact h3,h4,fun r hr=> ?_⟩;obtain ⟨a,k1,k2⟩:=h5 r hr;rw [hι];exact ⟨a,k1,k2.keep (fun _ _ _ h=>h.mono hle) (fun x hx=>hst rfl x hx)⟩
 |mapL k es=>
  obtain ⟨x,es',h1,h2,h3⟩:=h;exact ⟨x,es',by rw [hι];exact h1,by rw [hst rfl x h1];exact h2,h3.mono hle⟩
 |mapT k g c l=>
  obtain ⟨x,es',h1,h2,h3⟩:=h;exact ⟨x,es',by rw [hι];exact h1,by rw [hst rfl x h1];exact h2,h3.mono hle⟩
 |loop id env st pe=>
  obtain ⟨x,env',h1,h2,h3⟩:=h;refine ⟨x,env',by rw [hι];exact h1,by rw [hst rfl x h1];exact h2,fun t=> ?_⟩;have:=h3 t
  revert this
  split
  · exact fun h=>h.mono hle
  · exact fun h=>h
theorem live_set {b b':Nat} {y:UB} (h:live (setBl H b y) b'):(b'=b/\liveB y=true)\/(b'≠b/\live H b'):=by
 obtain ⟨x,hx,hl⟩:=h;rw [uset_get] at hx;split at hx
 · rename_i e;split at hx
   · simp at hx;subst hx;exact .inl ⟨e.symm,hl⟩
   · simp at hx
 · rename_i e;exact .inr ⟨fun e'=>e e'.symm,x,hx,hl⟩
theorem RH.setS (h:RH m H Hv) {b x s0:Nat} {y:UB} {yv:V.AB} (hb:live H b) (hx:m.ι b s0=some x) (hy:RB m (V.setBl Hv x yv) b y):RH m (setBl H b y) (V.setBl Hv x yv)/\Go' m.top m Hv m (V.setBl Hv x yv):=by
 refine ⟨⟨fun b' s x' hb'=> ?_,fun b' y' hy'=> ?_,fun b1 b2 s s' x' h1 h2 e1 e2=> ?_,h.wm,by simpa [V.setBl] using h.top,by simpa [setBl] using h.len⟩,⟨.refl (Nat.le_refl _),fun x' hx' hn=> ?_,fun b' s x' hb'=> .inl ⟨b',s,hb'⟩,by simp [V.setBl],rfl⟩⟩
 · have:=h.dom b' x' hb';simpa [setBl,V.setBl] using this
 · rw [uset_get] at hy';split at hy'
   · rename_i e;subst e;split at hy'
     · simp at hy';subst hy';exact hy
     · simp at hy'
   · rename_i e;refine (h.blk b' y' hy').keep (.refl m) rfl rfl fun hl s x' hx'=> ?_
     rw [vset_get,if_neg]
     rintro rfl
     exact e (h.inj b b' x hb ⟨y',hy',hl⟩ hx hx')
 · have k1:live H b1:=by rcases live_set h1 with ⟨rfl,_⟩|⟨_,h⟩<;>assumption
   have k2:live H b2:=by rcases live_set h2 with ⟨rfl,_⟩|⟨_,h⟩<;>assumption
   exact h.inj' b1 b2 x' k1 k2 e1 e2
 · rw [vset_get,if_neg (fun e=>hn b s0 (by rw [<- e];exact hx))]
theorem RH.set (h:RH m H Hv) {b x:Nat} {y:UB} {yv:V.AB} (hb:live H b) (hx:m.ι b 0=some x) (hy:RB m (V.setBl Hv x yv) b y):RH m (setBl H b y) (V.setBl Hv x yv)/\Go' m.top m Hv m (V.setBl Hv x yv):=h.setS hb hx hy
theorem RH.kill (h:RH m H Hv) (b:Nat):RH m (setBl H b .dead) Hv:=by
 refine ⟨fun b' s x' hb'=>by simpa [setBl] using h.dom b' x' hb',fun b' y' hy'=> ?_,fun b1 b2 s s' x' h1 h2 e1 e2=> ?_,h.wm,h.top,by simpa [setBl] using h.len⟩
 · rw [uset_get] at hy';split at hy'
   · split at hy'
     · simp at hy';subst hy';trivial
     · simp at hy'
   · exact h.blk b' y' hy'
 · have k:∀ {b'},live (setBl H b .dead) b'->live H b':=fun h=>by rcases live_set h with ⟨_,h'⟩|⟨_,h⟩;simp [liveB] at h';exact h
   exact h.inj' b1 b2 x' (k h1) (k h2) e1 e2
theorem RH.other (h:RH m H Hv) {x:Nat} (hx:∀ b s,live H b->m.ι b s≠some x) (yv:V.AB):RH m H (V.setBl Hv x yv):=by
 refine ⟨fun b' s x' hb'=>by simpa [V.setBl] using h.dom b' x' hb',fun b' y' hy'=> ?_,h.inj',h.wm,by simpa [V.setBl] using h.top,h.len⟩;refine (h.blk b' y' hy').keep (.refl m) rfl rfl fun hl s x' hx'=> ?_
 rw [vset_get,if_neg]
 rintro rfl
 exact hx b' s ⟨y',hy',hl⟩ hx'
theorem RH.alike (h:RH m H Hv) (hst:∀ b {s} x,live H b->m.ι b s=some x->Hv'.bl[x]?=Hv.bl[x]?) (hlen:Hv'.bl.length=Hv.bl.length) (hwm:Hv'.wm=Hv.wm):RH m H Hv':=by
 refine ⟨fun b' s x' hb'=>by rw [hlen];exact h.dom b' x' hb',fun b' y' hy'=> ?_,h.inj',by rw [hwm];exact h.wm,by rw [hlen,hwm];exact h.top,h.len⟩;exact (h.blk b' y' hy').keep (.refl m) rfl rfl fun hl s x' hx'=>hst b' x' ⟨y',hy',hl⟩ hx'
theorem addF_le (h:RH m H Hv) (f:Nat->Option Nat) (g:Nat->Nat):m.Le (m.addF H.bl.length f g):=⟨fun b s x' hb=>by
 have:=(h.dom b x' hb).1;rw [addF_ι_ne m f g (by omega),addF_len_ne m f g (by omega)];exact ⟨hb,rfl⟩,by have:=h.len;simp [Mp.addF];omega,fun b hb=>by have:=h.len;rw [addF_len_ne m f g (by omega)]⟩
theorem add_le (h:RH m H Hv) (x:Option Nat) (n:Nat):m.Le (m.add H.bl.length x n):=addF_le h _ _
theorem addF_old (h:RH m H Hv) (f:Nat->Option Nat) (g:Nat->Nat):Old m.top m (m.addF H.bl.length f g):=⟨by simp [Mp.addF];have:=h.len;omega,fun b hb=>by
 have:=h.len;exact ⟨addF_ι_ne m f g (by omega),addF_len_ne m f g (by omega)⟩⟩
theorem add_old (h:RH m H Hv) (x:Option Nat) (n:Nat):Old m.top m (m.add H.bl.length x n):=addF_old h _ _
theorem RH.pushF (h:RH m H Hv) {y:UB} {f:Nat->Option Nat} {g:Nat->Nat} (hst:∀ b {s} x',live H b->m.ι b s=some x'->Hv'.bl[x']?=Hv.bl[x']?) (hlen:Hv.bl.length<=Hv'.bl.length) (hwm:Hv'.wm=Hv.wm)
   (hx:∀ s xv,f s=some xv->xv<Hv'.bl.length/\Hv.wm<=xv/\∀ b s',live H b->m.ι b s'≠some xv) (hfi:∀ s s' xv,f s=some xv->f s'=some xv->s=s') (hy:RB (m.addF H.bl.length f g) Hv' H.bl.length y):
   RH (m.addF H.bl.length f g) (U.push H y) Hv'/\m.Le (m.addF H.bl.length f g):=by
 have hle:=addF_le h f g;have hlv:∀ {b},live (U.push H y) b->b=H.bl.length\/live H b:=fun {b} ⟨y',hy',hl⟩=>by
   rw [upush_get] at hy';split at hy'
   · exact .inr ⟨y',hy',hl⟩
   · split at hy'
     · rename_i e;exact .inl e
     · simp at hy'
 have hne:∀ {b},live H b->b≠H.bl.length:=fun {b} ⟨y',hy',_⟩=>by have:=getElem?_lt hy';omega
 refine ⟨⟨fun b s x' hb=> ?_,fun b y' hy'=> ?_,fun b1 b2 s s' x' h1 h2 e1 e2=> ?_,fun b s x' hb hw=> ?_,by rw [hwm];exact Nat.le_trans h.top hlen,by simp [Mp.addF,U.push]⟩,hle⟩
 · by_cases e:b=H.bl.length
   · subst e;rw [addF_ι] at hb;exact ⟨by simp [U.push],(hx s x' hb).1⟩
   · rw [addF_ι_ne m f g e] at hb;have:=h.dom b x' hb;exact ⟨by simp [U.push];omega,by omega⟩
 · rw [upush_get] at hy';split at hy'
   · rename_i hlt;exact (h.blk b y' hy').keep hle (addF_ι_ne m f g (by omega)) (addF_len_ne m f g (by omega)) fun hl s x' hx'=>hst b x' ⟨y',hy',hl⟩ hx'
   · split at hy'
     · rename_i e;simp at hy';subst hy';subst e;exact hy
     · simp at hy'
 · rcases hlv h1 with rfl|l1<;>rcases hlv h2 with rfl|l2
   · rw [addF_ι] at e1 e2;exact ⟨rfl,hfi s s' x' e1 e2⟩
   · rw [addF_ι] at e1;rw [addF_ι_ne m f g (hne l2)] at e2;exact absurd e2 ((hx s x' e1).2.2 b2 s' l2)
   · rw [addF_ι] at e2;rw [addF_ι_ne m f g (hne l1)] at e1;exact absurd e1 ((hx s' x' e2).2.2 b1 s l1)
   · rw [addF_ι_ne m f g (hne l1)] at e1;rw [addF_ι_ne m f g (hne l2)] at e2;exact h.inj' b1 b2 x' l1 l2 e1 e2
 · rw [hwm];by_cases e:b=H.bl.length
   · subst e;rw [addF_ι] at hb;exact (hx s x' hb).2.1
   · rw [addF_ι_ne m f g e] at hb;exact h.wm b x' hb hw
theorem RH.push (h:RH m H Hv) {y:UB} {x:Option Nat} {n:Nat} (hst:∀ b {s} x',live H b->m.ι b s=some x'->Hv'.bl[x']?=Hv.bl[x']?) (hlen:Hv.bl.length<=Hv'.bl.length) (hwm:Hv'.wm=Hv.wm)
  (hx:∀ xv,x=some xv->xv<Hv'.bl.length/\Hv.wm<=xv/\∀ b s,live H b->m.ι b s≠some xv) (hy:RB (m.add H.bl.length x n) Hv' H.bl.length y):
  RH (m.add H.bl.length x n) (U.push H y) Hv'/\m.Le (m.add H.bl.length x n):=
 h.pushF hst hlen hwm (fun s xv e=>hx xv (f0_some e).2) (fun s s' xv e e'=>by rw [(f0_some e).1,(f0_some e').1]) hy
theorem RH.new (h:RH m H Hv) {y:UB} {yv:V.AB} {n:Nat} (hy:RB (m.add H.bl.length (some Hv.bl.length) n) (V.push Hv yv) H.bl.length y):
   RH (m.add H.bl.length (some Hv.bl.length) n) (U.push H y) (V.push Hv yv)/\m.Le (m.add H.bl.length (some Hv.bl.length) n)/\Go' m.top m Hv (m.add H.bl.length (some Hv.bl.length) n) (V.push Hv yv):=by
 have h1:=h.push (Hv':=V.push Hv yv) (y:=y) (x:=some Hv.bl.length) (n:=n) (fun b s x' hl hb=>by rw [vpush_get,if_pos (h.dom b x' hb).2]) (by simp [V.push]) rfl
   (fun xv e=>by
    simp at e;subst e;exact ⟨by simp [V.push],h.top,fun b s _ hb=>by have:=(h.dom b _ hb).2;omega⟩) hy
 refine ⟨h1.1,h1.2,⟨add_old h _ _,fun x hx _=>by rw [vpush_get,if_pos hx],fun b s x hb=> ?_,by simp [V.push],rfl⟩⟩;by_cases e:b=H.bl.length
 · subst e;obtain ⟨_,e⟩:=add_ιs hb;simp at e;subst e;exact .inr (Nat.le_refl _)
 · rw [add_ι_ne _ _ _ e] at hb;exact .inl ⟨b,s,hb⟩
theorem addF_new {m:Mp} {b0:Nat} {f:Nat->Option Nat} {g:Nat->Nat} {N:Nat} (hf:∀ s x,f s=some x->(∃ b1 s1,m.ι b1 s1=some x)\/N<=x) (b:Nat) {s:Nat} (x:Nat) (hb:(m.addF b0 f g).ι b s=some x):(∃ b1 s1,m.ι b1 s1=some x)\/N<=x:=by
 by_cases e:b=b0
 · subst e;rw [addF_ι] at hb;exact hf s x hb
 · rw [addF_ι_ne _ _ _ e] at hb;exact .inl ⟨b,s,hb⟩
def deepF (x:Nat) (F:Nat->Option Nat):Nat->Option Nat
 |0=>some x
 |r+1=>F r
def deepG {c:CT} (L:List (List (CellT c))):Nat->Nat
 |0=>L.length
 |r+1=>(L.getD r []).length
theorem RH.newDeep (hh:RH m H Hv) {c:CT} {L:List (List (CellT c))} {rows:List (List V.AV)} {ty:Option (TypeId×Nat)} {F:Nat->Option Nat} (hrl:rows.length=L.length)
   (hF:∀ r x,F r=some x->(∃ b s,m.ι b s=some x)/\Hv.wm<=x/\∀ b s,live H b->m.ι b s≠some x) (hFi:∀ r r' x,F r=some x->F r'=some x->r=r') (hFo:∀ r,L.length<=r->F r=none)
   (hrow:∀ r,r<L.length->∃ a,rows[r]?=some [a]/\RowIs m Hv (F r) c (L.getD r []) a):
   ∃ m',RH m' (U.push H (.deep c L)) (V.push Hv (.cells rows 1 ty))/\RV m' (.all H.bl.length) (.sl Hv.bl.length 0 L.length)/\m.Le m'/\Go' m.top m Hv m' (V.push Hv (.cells rows 1 ty)):=by
 have hlt:∀ r x,F r=some x->x<Hv.bl.length:=fun r x h=>by
   obtain ⟨b,s,h1⟩:=(hF r x h).1;exact (hh.dom b x h1).2
 have h1:=hh.pushF (Hv':=V.push Hv (.cells rows 1 ty)) (y:= .deep c L) (f:=deepF Hv.bl.length F) (g:=deepG L) (fun b s x' hl hb=>by rw [vpush_get,if_pos (hh.dom b x' hb).2]) (by simp [V.push]) rfl
   (fun s xv e=>by
    cases s with
    |zero=>
     simp [deepF] at e;subst e;exact ⟨by simp [V.push],hh.top,fun b s _ hb=>by have:=(hh.dom b _ hb).2;omega⟩
    |succ r=>
     have e:F r=some xv:=e;exact ⟨by have:=hlt r xv e;simp [V.push];omega,(hF r xv e).2.1,(hF r xv e).2.2⟩)
   (fun s s' xv e e'=>by
    cases s with
    |zero=>
     cases s' with
     |zero=>rfl
     |succ r'=>
      have e':F r'=some xv:=e';have:=hlt r' xv e';simp [deepF] at e;omega
    |succ r=>
     have e:F r=some xv:=e;cases s' with
     |zero=>have:=hlt r xv e;simp [deepF] at e';omega
     |succ r'=>
      have e':F r'=some xv:=e';rw [hFi r r' xv e e'])
   (by
    refine ⟨by rw [addF_len];rfl,fun r=>⟨by rw [addF_len];rfl,fun hr=>by rw [addF_ι];exact hFo r hr⟩,.inr ⟨Hv.bl.length,rows,ty,by rw [addF_ι];rfl,by rw [vpush_get,if_neg (by omega),if_pos rfl],by omega,fun r hr=> ?_⟩⟩;obtain ⟨a,k1,k2⟩:=hrow r hr;refine ⟨a,k1,?_⟩;rw [addF_ι];exact k2.keep (fun x y hc h=>h.free _ 8 hc) fun x hx=>by rw [vpush_get,if_pos (hlt r x hx)])
 refine ⟨_,h1.1,?_,h1.2,⟨addF_old hh _ _,fun x hx _=>by rw [vpush_get,if_pos hx],fun b s x hb=>addF_new (fun s x e=> ?_) b x hb,by simp [V.push],rfl⟩⟩
 · have:=RV.all (m:=m.addF H.bl.length (deepF Hv.bl.length F) (deepG L)) H.bl.length Hv.bl.length (by rw [addF_ι];rfl);rw [addF_len] at this;exact this
 · cases s with
   |zero=>simp [deepF] at e;subst e;exact .inr (Nat.le_refl _)
   |succ r=>exact .inl (hF r x e).1
end
end Go.U
namespace Go.U
open Go
variable [TB:Tbl]
section
variable {A:V.Par} {glob:Nat->Option (List UV)} {m:Mp} {φ:Nat->Option Nat} {s:St} {sv:V.S} {X:Type} {out:X}
theorem RRows.row {z n:Nat} {f:Nat->List UV} {rows:List (List V.AV)} (h:RRows m z n f rows) (hn:n<=rows.length) {i:Nat} (hi:i<n):∃ row,rows[i]?=some row/\RL m (f i) row/\row.length=z:=by
 have hr:=List.getElem?_eq_getElem (l:=rows) (i:=i) (by omega);have hz:=h.2.1 i _ hi hr;exact ⟨_,hr,⟨by rw [hz,(h.1 i hi).1],fun c x a h1 h2=>h.2.2 i _ c x a hi hr h1 h2⟩,hz⟩
theorem cells_block (h:RH m s.H sv.H) {b:Nat} {c:CT} {l:List (CellT c)} (hb:s.H.bl[b]?=some (.cells c l)):m.len b 0=l.length/\∀ x,m.ι b 0=some x->∃ rows ty,sv.H.bl[x]?=some (.cells rows (width c) ty)/\l.length<=rows.length/\RRows m (width c) l.length (vw c l) rows:=by
 obtain ⟨h1,h2⟩:=h.blk b _ hb;refine ⟨h1,fun x hx=> ?_⟩;rcases h2 with ⟨_,h3⟩|⟨x',rows,ty,h3,h4,h5,h6⟩
 · rw [hx] at h3;simp at h3
 · rw [hx] at h3;simp at h3;subst h3;exact ⟨rows,ty,h4,h5,h6⟩
theorem deep_block (h:RH m s.H sv.H) {b:Nat} {c:CT} {l:List (List (CellT c))} (hb:s.H.bl[b]?=some (.deep c l)):m.len b 0=l.length/\(∀ r,m.len b (r+1)=(l.getD r []).length)/\∀ x,m.ι b 0=some x->∃ rows ty,sv.H.bl[x]?=some (.cells rows 1 ty)/\l.length<=rows.length/\
   ∀ r,r<l.length->∃ a,rows[r]?=some [a]/\RowIs m sv.H (m.ι b (r+1)) c (l.getD r []) a:=by
 obtain ⟨h1,h0,h2⟩:=h.blk b _ hb;refine ⟨h1,fun r=>(h0 r).1,fun x hx=> ?_⟩;rcases h2 with ⟨_,h3⟩|⟨x',rows,ty,h3,h4,h5,h6⟩
 · rw [hx] at h3;simp at h3
 · rw [hx] at h3;simp at h3;subst h3;exact ⟨rows,ty,h4,h5,h6⟩
theorem deep_row (h:RH m s.H sv.H) {b r y:Nat} {c:CT} {l:List (List (CellT c))} (hb:s.H.bl[b]?=some (.deep c l)) (hy:m.ι b (r+1)=some y):r<l.length/\∃ rows ty,sv.H.bl[y]?=some (.cells rows (width c) ty)/\(l.getD r []).length<=rows.length/\RRows m (width c) (l.getD r []).length (vw c (l.getD r [])) rows:=by
 obtain ⟨h1,h0,h2⟩:=h.blk b _ hb;have hr:r<l.length:=by
   rcases Nat.lt_or_ge r l.length with h|h
   · exact h
   · rw [(h0 r).2 h] at hy;simp at hy
 refine ⟨hr,?_⟩;rcases h2 with ⟨h3,_⟩|⟨x',rows,ty,h3,h4,h5,h6⟩
 · omega
 · obtain ⟨a,k1,k2⟩:=h6 r hr;rcases k2 with ⟨_,k3,_⟩|⟨y',rows',ty',k3,k4,k5,k6,k7⟩
   · rw [hy] at k3;simp at k3
   · rw [hy] at k3;simp at k3;subst k3;exact ⟨rows',ty',k5,k6,k7⟩
theorem vw_set {c:CT} {l:List (CellT c)} {r:Nat} {x:CellT c} {i:Nat} (hr:r<l.length):vw c (l.set r x) i=if i=r then enc c x else vw c l i:=by
 simp only [vw,List.getD_eq_getElem?_getD,List.getElem?_set];split
 · rename_i e;subst e;simp [hr]
 · rename_i e;rw [if_neg (fun e'=>e e'.symm)]
theorem opn_block (h:RH m s.H sv.H) {b x:Nat} {row:List UV} (hb:s.H.bl[b]?=some (.opn row)) (hx:m.ι b 0=some x):∃ row' ty,sv.H.bl[x]?=some (.cells [row'] row'.length ty)/\RL m row row':=by
 obtain ⟨x',row',ty,h1,h2,h3⟩:=h.blk b _ hb;rw [hx] at h1;simp at h1;subst h1;exact ⟨row',ty,h2,h3⟩
theorem load_sim {t:TypeId} {p:US} {pv:V.SV} {x:UV} (h:load A s t p=some x) (hh:RH m s.H sv.H) (hf:RF m φ s.F sv.F) (hp:RS m φ p pv):∃ a,V.load A sv t pv=some a/\RV m x a:=by
 unfold load at h;split at h
 · rename_i i c;cases pv with
   |v a=>exact hp.elim
   |loc j c'=>
    obtain ⟨h1,rfl⟩:=hp;simp only [Option.bind_eq_some_iff] at h;obtain ⟨row,hr,h⟩:=h;obtain ⟨j',row',k1,k2,k3⟩:=hf.row i row hr;rw [h1] at k1;simp at k1;subst k1;obtain ⟨a,k4,k5⟩:=part_sim h k3;exact ⟨a,by simp [V.load,k2,k4],k5⟩
 · rename_i b c;obtain ⟨a,rfl,hv⟩:=hp.val (by simp);cases hv with
   |ptr _ _ x hx=>
    split at h
    · rename_i row hb;obtain ⟨row',ty,k1,k2⟩:=opn_block hh hb hx;obtain ⟨a,k4,k5⟩:=part_sim h k2;exact ⟨a,by simp [V.load,V.rowAt,k1,k4],k5⟩
    · simp at h
 · rename_i b r c;obtain ⟨a,rfl,hv⟩:=hp.val (by simp);cases hv with
   |pel _ _ _ x hx hr=>
    split at h
    · rename_i ct l hb;obtain ⟨k0,k1⟩:=cells_block hh hb;obtain ⟨rows,ty,k2,k3,k4⟩:=k1 x hx;obtain ⟨row,k5,k6,_⟩:=k4.row k3 (i:=r) (by rw [<- k0];exact hr);obtain ⟨a,k7,k8⟩:=part_sim h k6;exact ⟨a,by simp [V.load,V.rowAt,k2,k5,k7],k8⟩
    · rename_i ct l hb;obtain ⟨k0,k1,k2⟩:=deep_block hh hb;obtain ⟨rows,ty,k3,k4,k5⟩:=k2 x hx;have hrl:r<l.length:=by rw [<- k0];exact hr
      obtain ⟨a0,k6,k7⟩:=k5 r hrl;have hd:RV m (.dsl b r) a0:=by
       rcases k7 with ⟨j1,j2,j3⟩|⟨y,rows',ty',j1,rfl,_⟩
       · exact .dsl0 b r a0 (by rw [hh.len];exact getElem?_lt hb) (by rw [k1 r];exact j1) j3
       · rw [<- k1 r];exact .dsl b r y j1
      obtain ⟨a,k8,k9⟩:=part_sim h (RL.cons hd RL.nil);exact ⟨a,by simp [V.load,V.rowAt,k3,k6,k8],k9⟩
    · simp at h
 · rename_i b r j c;obtain ⟨a,rfl,hv⟩:=hp.val (by simp);cases hv with
   |dpl _ _ _ _ x hx hj=>
    split at h
    · rename_i ct l hb;obtain ⟨k0,k1,_⟩:=deep_block hh hb;obtain ⟨hrl,rows,ty,k2,k3,k4⟩:=deep_row hh hb hx;obtain ⟨row,k5,k6,_⟩:=k4.row k3 (i:=j) (by rw [<- k1 r];exact hj);obtain ⟨a,k7,k8⟩:=part_sim h k6;exact ⟨a,by simp [V.load,V.rowAt,k2,k5,k7],k8⟩
    · simp at h
 · rename_i row;obtain ⟨a,rfl,hv⟩:=hp.val (by simp);cases hv with
   |eptr _ row' hl hc hr=>
    obtain ⟨a,k1,k2⟩:=part_sim h ⟨hl,hr⟩;exact ⟨a,by simp [V.load,k1],k2⟩
 · simp at h
theorem RF.set {F:List (List UV)} {Fv:List (List V.AV)} (h:RF m φ F Fv) {i j:Nat} {row:List UV} {row':List V.AV} (hij:φ i=some j) (hr:RL m row row'):RF m φ (F.set i row) (Fv.set j row'):=by
 refine ⟨fun a b hab=>by simpa using h.dom a b hab,fun a r ha=> ?_,h.inj⟩;rw [List.getElem?_set] at ha;split at ha
 · rename_i e;subst e;split at ha
   · simp at ha;subst ha;refine ⟨j,row',hij,?_,hr⟩;rw [List.getElem?_set,if_pos rfl,if_pos (h.dom _ _ hij).2]
   · simp at ha
 · rename_i e;obtain ⟨b,r',k1,k2,k3⟩:=h.row a r ha;refine ⟨b,r',k1,?_,k3⟩;rw [List.getElem?_set,if_neg]
   · exact k2
   · rintro rfl;exact e (h.inj i a _ hij k1)
theorem RF.mono {m':Mp} {F:List (List UV)} {Fv:List (List V.AV)} (h:RF m φ F Fv) (hle:m.Le m'):RF m' φ F Fv:=
 ⟨h.dom,fun i row hi=>let ⟨j,row',h1,h2,h3⟩:=h.row i row hi;⟨j,row',h1,h2,h3.mono hle⟩,h.inj⟩
theorem store_sim {t:TypeId} {p:US} {pv:V.SV} {y:UV} {a:V.AV} {s':St} (h:store A s t p y=some s') (hh:RH m s.H sv.H) (hf:RF m φ s.F sv.F) (hp:RS m φ p pv) (hy:RV m y a):
   ∃ sv',V.store A sv t pv a=some sv'/\RH m s'.H sv'.H/\RF m φ s'.F sv'.F/\Go' m.top m sv.H m sv'.H/\s'.e=s.e/\sv'.e=sv.e/\s'.base=s.base:=by
 simp only [store,fL_eq,Option.bind_eq_some_iff] at h;obtain ⟨cs,hcs,n,hn,h⟩:=h;split at h
 case isFalse=>simp at h
 rename_i hlen;obtain ⟨cs',q1,q2⟩:=cells_sim hcs hy;unfold V.store;simp only [q1,hn,Option.bind_some];rw [if_pos (by rw [q2.1];exact hlen)];split at h
 · rename_i i c;cases pv with
   |v a=>exact hp.elim
   |loc j c'=>
    obtain ⟨h1,rfl⟩:=hp;simp only [Option.bind_eq_some_iff] at h;obtain ⟨row,hr,row1,hsp,h⟩:=h;simp at h;subst h;obtain ⟨j',row',k1,k2,k3⟩:=hf.row i row hr;rw [h1] at k1;simp at k1;subst k1;obtain ⟨row1',k4,k5,_⟩:=splice_sim hsp k3 q2;exact ⟨{ sv with F:=sv.F.set j row1' },by simp [k2,k4],hh,hf.set h1 k5,.refl _ (Nat.le_refl _),rfl,rfl,rfl⟩
 · rename_i b c;obtain ⟨a',rfl,hv⟩:=hp.val (by simp);cases hv with
   |ptr _ _ x hx=>
    split at h
    case h_2=>simp at h
    rename_i row hb;split at h
    case isFalse=>simp at h
    rename_i hwm;simp only [Option.bind_eq_some_iff] at h;obtain ⟨row1,hsp,h⟩:=h;simp at h;subst h;obtain ⟨row',ty,k1,k2⟩:=opn_block hh hb hx;obtain ⟨row1',k4,k5,k6⟩:=splice_sim hsp k2 q2;have hl:live s.H b:=⟨_,hb,rfl⟩;have hw:=hh.wm b x hx hwm;have hlen':row1'.length=row'.length:=by rw [k5.1,k6,k2.1]
    have hset:=hh.set (y:= .opn row1) (yv:= .cells [row1'] row1'.length ty) hl hx ⟨x,row1',ty,hx,by rw [vset_get,if_pos rfl,if_pos (hh.dom b x hx).2],k5⟩;refine ⟨{ sv with H:=V.setBl sv.H x (.cells [row1'] row1'.length ty) },?_,hset.1,hf,hset.2,rfl,rfl,rfl⟩;simp [k1,hw,k4,hlen']
 · rename_i b r c;obtain ⟨a',rfl,hv⟩:=hp.val (by simp);cases hv with
   |pel _ _ _ x hx hrl=>
    split at h
    case h_2=>simp at h
    rename_i ct l hb;split at h
    case isFalse=>simp at h
    rename_i hwm;simp only [Option.bind_eq_some_iff] at h;obtain ⟨row1,hsp,xr,hdec,h⟩:=h;simp at h;subst h;obtain ⟨k0,k1⟩:=cells_block hh hb;obtain ⟨rows,ty,k2,k3,k4⟩:=k1 x hx;have hrn:r<l.length:=by rw [<- k0];exact hrl
    have hrr:r<rows.length:=by omega
    obtain ⟨row',k5,k6,k7⟩:=k4.row k3 hrn;obtain ⟨row1',k8,k9,k10⟩:=splice_sim hsp k6 q2;have k9':=dec1_sim hdec k9;have hl:live s.H b:=⟨_,hb,rfl⟩;have hw:=hh.wm b x hx hwm;have hset:=hh.set (y:= .cells ct (l.set r xr)) (yv:= .cells (rows.set r row1') (width ct) ty) hl hx (by
     refine ⟨by rw [List.length_set];exact k0,.inr ⟨x,rows.set r row1',ty,hx,by rw [vset_get,if_pos rfl,if_pos (hh.dom b x hx).2],by simpa using k3,fun i hi=>⟨vw_length _ _ _,vw_closed _ _ _⟩,fun i row hin hi=> ?_,fun i row c' y' a' hin hi h1 h2=> ?_⟩⟩
     · rw [List.length_set] at hin;rw [List.getElem?_set] at hi;split at hi
       · simp [hrr] at hi;subst hi;rw [k9'.1,enc_length]
       · exact k4.2.1 i row hin hi
     · rw [List.length_set] at hin;rw [List.getElem?_set] at hi;rw [vw_set hrn] at h1;split at hi
       · rename_i e;subst e;rw [if_pos rfl] at h1;simp [hrr] at hi;subst hi;exact k9'.2 c' y' a' h1 h2
       · rename_i e;rw [if_neg (fun e'=>e e'.symm)] at h1;exact k4.2.2 i row c' y' a' hin hi h1 h2)
    refine ⟨{ sv with H:=V.setBl sv.H x (.cells (rows.set r row1') (width ct) ty) },?_,hset.1,hf,hset.2,rfl,rfl,rfl⟩;simp [k2,hw,k5,k8]
 · rename_i b r j c;obtain ⟨a',rfl,hv⟩:=hp.val (by simp);cases hv with
   |dpl _ _ _ _ x hx hjl=>
    split at h
    case h_2=>simp at h
    rename_i ct l hb;split at h
    case isFalse=>simp at h
    rename_i hwm;simp only [Option.bind_eq_some_iff] at h;obtain ⟨row1,hsp,xr,hdec,h⟩:=h;simp at h;subst h;obtain ⟨k0,k1,kx⟩:=deep_block hh hb;obtain ⟨hrl,rows,ty,k2,k3,k4⟩:=deep_row hh hb hx;have hjn:j<(l.getD r []).length:=by rw [<- k1 r];exact hjl
    have hjr:j<rows.length:=by omega
    obtain ⟨row',k5,k6,k7⟩:=k4.row k3 hjn;obtain ⟨row1',k8,k9,k10⟩:=splice_sim hsp k6 q2;have k9':=dec1_sim hdec k9;have hl:live s.H b:=⟨_,hb,rfl⟩;have hw:=hh.wm b x hx hwm;have hgd:∀ i,(l.set r ((l.getD r []).set j xr)).getD i []=if i=r then (l.getD r []).set j xr else l.getD i []:=fun i=>by
     simp only [List.getD_eq_getElem?_getD,List.getElem?_set];by_cases e:r=i
     · subst e;simp [hrl]
     · rw [if_neg e,if_neg (fun e'=>e e'.symm)]
    have hset:=hh.setS (y:= .deep ct (l.set r ((l.getD r []).set j xr))) (yv:= .cells (rows.set j row1') (width ct) ty) hl hx (by
     obtain ⟨b1,b0,b2⟩:=hh.blk b _ hb;refine ⟨by rw [List.length_set];exact b1,fun i=>⟨?_,by rw [List.length_set];exact (b0 i).2⟩,?_⟩
     · rw [hgd];split
       · rename_i e;subst e;rw [List.length_set];exact (b0 i).1
       · exact (b0 i).1
     rcases b2 with ⟨b3,_⟩|⟨x',rws,ty',b3,b4,b5,b6⟩
     · omega
     have hxx:x≠x':=fun e=>by subst e;have:=(hh.inj' b b x hl hl hx b3).2;omega
     refine .inr ⟨x',rws,ty',b3,by rw [vset_get,if_neg hxx];exact b4,by rw [List.length_set];exact b5,fun i hi=> ?_⟩;rw [List.length_set] at hi;obtain ⟨a,c1,c2⟩:=b6 i hi;refine ⟨a,c1,?_⟩;rw [hgd];split
     · rename_i e;subst e;rcases c2 with ⟨c3,_⟩|⟨y,rw0,ty0,c3,c4,c5,c6,c7⟩
       · omega
       rw [hx] at c3;simp at c3;subst c3;rw [k2] at c5;simp at c5;obtain ⟨rfl,rfl⟩:=c5;refine .inr ⟨x,rows.set j row1',ty,hx,by rw [List.length_set];exact c4,by rw [vset_get,if_pos rfl,if_pos (hh.dom b x hx).2],by simpa using c6,fun i hi=>⟨vw_length _ _ _,vw_closed _ _ _⟩,fun i row hin hi=> ?_,fun i row c' y' a' hin hi h1 h2=> ?_⟩
       · rw [List.length_set] at hin;rw [List.getElem?_set] at hi;split at hi
         · simp [hjr] at hi;subst hi;rw [k9'.1,enc_length]
         · exact c7.2.1 i row hin hi
       · rw [List.length_set] at hin;rw [List.getElem?_set] at hi;rw [vw_set hjn] at h1;split at hi
         · rename_i e;subst e;rw [if_pos rfl] at h1;simp [hjr] at hi;subst hi;exact k9'.2 c' y' a' h1 h2
         · rename_i e;rw [if_neg (fun e'=>e e'.symm)] at h1;exact c7.2.2 i row c' y' a' hin hi h1 h2
     · rename_i e;rcases c2 with ⟨c3,c4,c5⟩|⟨y,rw0,ty0,c3,c4,c5,c6,c7⟩
       · exact .inl ⟨c3,c4,c5⟩
       · have hxy:x≠y:=fun e'=>by subst e';have:=(hh.inj' b b x hl hl hx c3).2;omega
         exact .inr ⟨y,rw0,ty0,c3,c4,by rw [vset_get,if_neg hxy];exact c5,c6,c7⟩)
    refine ⟨{ sv with H:=V.setBl sv.H x (.cells (rows.set j row1') (width ct) ty) },?_,hset.1,hf,hset.2,rfl,rfl,rfl⟩;simp [k2,hw,k5,k8]
 · simp at h
theorem addCell_sim {p p':US} {pv:V.SV} {n:Nat} (h:addCell n p=some p') (hp:RS m φ p pv):∃ pv',V.addCell n pv=some pv'/\RS m φ p' pv':=by
 unfold addCell at h;split at h
 · rename_i i c;simp at h;subst h;cases pv with
   |v a=>exact hp.elim
   |loc j c'=>obtain ⟨h1,rfl⟩:=hp;exact ⟨_,rfl,h1,rfl⟩
 · rename_i b c;simp at h;subst h;obtain ⟨a,rfl,hv⟩:=hp.val (by simp);cases hv with
   |ptr _ _ x hx=>exact ⟨_,rfl,RV.ptr b (c+n) x hx⟩
 · rename_i b r c;simp at h;subst h;obtain ⟨a,rfl,hv⟩:=hp.val (by simp);cases hv with
   |pel _ _ _ x hx hr=>exact ⟨_,rfl,RV.pel b r (c+n) x hx hr⟩
 · rename_i b r j c;simp at h;subst h;obtain ⟨a,rfl,hv⟩:=hp.val (by simp);cases hv with
   |dpl _ _ _ _ x hx hr=>exact ⟨_,rfl,RV.dpl b r j (c+n) x hx hr⟩
 · rename_i row;simp at h;subst h;obtain ⟨a,rfl,hv⟩:=hp.val (by simp);cases hv with
   |eptr _ row' hl hc hr=>
    have:=RL.drop (m:=m) ⟨hl,hr⟩ n;exact ⟨_,rfl,RV.eptr _ _ this.1 (fun x hx=>hc x (List.mem_of_mem_drop hx)) this.2⟩
 · simp at h
theorem cases_spec {i:Int} {K:Nat->Option X}:∀ (n j:Nat),cases i K n j=some out->∃ k,j<=k/\k<j+n/\i=(k:Int)/\K k=some out
 |0,j,h=>by simp [cases] at h
 |n+1,j,h=>by
  simp only [cases] at h;by_cases hc:i=(j:Int)
  · simp [hc] at h;exact ⟨j,Nat.le_refl _,by omega,hc,h⟩
  · simp [hc] at h;obtain ⟨k,h1,h2,h3,h4⟩:=cases_spec n (j+1) h;exact ⟨k,by omega,by omega,h3,h4⟩
theorem ask_some {b:Bool} {x:Option X} (h:ask b x=some out):b=true/\x=some out:=by
 unfold ask at h;cases b<;>simp_all
theorem addN_eq (r k:Nat):addN r k=r+k:=by unfold addN;split<;>simp
theorem indexAddr_sim {t:TypeId} {p:US} {i:Int} {K:US->Option X} (h:indexAddr A s.H t p i K=some out):
   ∃ v,K v=some out/\∀ (m:Mp) (φ:Nat->Option Nat) (sv:V.S) (pv:V.SV),RH m s.H sv.H->RS m φ p pv->∃ vv,V.indexAddr A sv.H t pv i=some vv/\RS m φ v vv:=by
 unfold indexAddr at h;split at h
 · rename_i n e hu;simp only [Option.bind_eq_some_iff] at h;obtain ⟨sz,hsz,h⟩:=h;obtain ⟨k,_,hk,rfl,hc⟩:=cases_spec n 0 h;obtain ⟨v,hv,h⟩:=Option.bind_eq_some_iff.1 hc;refine ⟨v,h,fun m φ sv pv hh hp=> ?_⟩;obtain ⟨vv,h1,h2⟩:=addCell_sim hv hp;refine ⟨vv,?_,h2⟩;have hr:V.inRange (k:Int) n=true:=by simp [V.inRange];omega
   simp [V.indexAddr,hu,hr,hsz,h1]
 · rename_i e hu;split at h
   · rename_i b r n;split at h
     case h_3=>simp at h
     case h_2=>
      rename_i ct l hb;split at h
      case isFalse=>simp at h
      rename_i hz;obtain ⟨h0,h⟩:=ask_some h;refine ⟨_,h,fun m φ sv pv hh hp=> ?_⟩;obtain ⟨a,rfl,hv⟩:=hp.val (by simp);have h0':0<=i/\i<(n:Int):=by simpa [V.inRange] using h0
      have hlt:i.toNat<n:=by omega
      cases hv with
      |sl _ _ _ x hx hle=>
        obtain ⟨k0,k1,k2⟩:=deep_block hh hb;obtain ⟨rows,ty,k3,k4,k5⟩:=k2 x hx;refine ⟨.v (.ptr x (r+i.toNat) 0),?_,?_⟩
        · simp [V.indexAddr,hu,h0,V.szOf,k3,hz]
        · rw [addN_eq];exact RV.pel b _ 0 x hx (by omega)
      |sl0 _ _ a ha=>omega
     rename_i ct l hb;split at h
     case isFalse=>simp at h
     rename_i hz;obtain ⟨h0,h⟩:=ask_some h;refine ⟨_,h,fun m φ sv pv hh hp=> ?_⟩;obtain ⟨a,rfl,hv⟩:=hp.val (by simp);have h0':0<=i/\i<(n:Int):=by simpa [V.inRange] using h0
     have hlt:i.toNat<n:=by omega
     cases hv with
     |sl _ _ _ x hx hle=>
      obtain ⟨k0,k1⟩:=cells_block hh hb;obtain ⟨rows,ty,k2,k3,k4⟩:=k1 x hx;refine ⟨.v (.ptr x (r+i.toNat) 0),?_,?_⟩
      · simp [V.indexAddr,hu,h0,V.szOf,k2,hz]
      · rw [addN_eq];exact RV.pel b _ 0 x hx (by omega)
     |sl0 _ _ a ha=>omega
   · rename_i b;split at h
     case h_3=>simp at h
     case h_2=>
      rename_i ct l hb;split at h
      case isFalse=>simp at h
      rename_i hz;obtain ⟨h0,h⟩:=ask_some h;refine ⟨_,h,fun m φ sv pv hh hp=> ?_⟩;obtain ⟨a,rfl,hv⟩:=hp.val (by simp);have h0':0<=i/\i<(l.length:Int):=by simpa [V.inRange] using h0
      have hlt:i.toNat<l.length:=by omega
      obtain ⟨k0,k1,k2⟩:=deep_block hh hb;cases hv with
      |all _ x hx=>
        obtain ⟨rows,ty,k3,k4,k5⟩:=k2 x hx;refine ⟨.v (.ptr x (0+i.toNat) 0),?_,?_⟩
        · simp [V.indexAddr,hu,k0,h0,V.szOf,k3,hz]
        · rw [Nat.zero_add];exact RV.pel b _ 0 x hx (by omega)
      |all0 _ a _ hl ha=>omega
     rename_i ct l hb;split at h
     case isFalse=>simp at h
     rename_i hz;obtain ⟨h0,h⟩:=ask_some h;refine ⟨_,h,fun m φ sv pv hh hp=> ?_⟩;obtain ⟨a,rfl,hv⟩:=hp.val (by simp);have h0':0<=i/\i<(l.length:Int):=by simpa [V.inRange] using h0
     have hlt:i.toNat<l.length:=by omega
     obtain ⟨k0,k1⟩:=cells_block hh hb;cases hv with
     |all _ x hx=>
      obtain ⟨rows,ty,k2,k3,k4⟩:=k1 x hx;refine ⟨.v (.ptr x (0+i.toNat) 0),?_,?_⟩
      · simp [V.indexAddr,hu,k0,h0,V.szOf,k2,hz]
      · rw [Nat.zero_add];exact RV.pel b _ 0 x hx (by omega)
     |all0 _ a _ hl ha=>omega
   · rename_i b r;split at h
     case h_2=>simp at h
     rename_i ct l hb;split at h
     case isFalse=>simp at h
     rename_i hz;obtain ⟨h0,h⟩:=ask_some h;refine ⟨_,h,fun m φ sv pv hh hp=> ?_⟩;obtain ⟨a,rfl,hv⟩:=hp.val (by simp);have h0':0<=i/\i<((l.getD r []).length:Int):=by simpa only [V.inRange,Bool.and_eq_true,decide_eq_true_eq] using h0
     have hlt:i.toNat<(l.getD r []).length:=by omega
     obtain ⟨k0,k1,_⟩:=deep_block hh hb;cases hv with
     |dsl _ _ x hx=>
      obtain ⟨hrl,rows,ty,k2,k3,k4⟩:=deep_row hh hb hx;refine ⟨.v (.ptr x (0+i.toNat) 0),?_,?_⟩
      · have h0'':V.inRange i (m.len b (r+1))=true:=by rw [k1 r];exact h0
        simp [V.indexAddr,hu,h0'',V.szOf,k2,hz]
      · rw [Nat.zero_add];exact RV.dpl b r _ 0 x hx (by rw [k1 r];exact hlt)
     |dsl0 _ _ a _ hl ha=>rw [k1 r] at hl;omega
   · rename_i ct l;split at h
     case isFalse=>simp at h
     rename_i hz;obtain ⟨h0,h⟩:=ask_some h;refine ⟨_,h,fun m φ sv pv hh hp=> ?_⟩;obtain ⟨a,rfl,hv⟩:=hp.val (by simp);have h0':0<=i/\i<(l.length:Int):=by simpa [V.inRange] using h0
     have hlt:i.toNat<l.length:=by omega
     cases hv with
     |lit _ _ rows h1 h2 h3=>
      have hrr:RRows m (width ct) rows.length (vw ct l) rows:=⟨fun i _=>⟨vw_length _ _ _,vw_closed _ _ _⟩,fun i row _=>h2 i row,fun i row c x a _=>h3 i row c x a⟩;obtain ⟨row,k5,k6,k7⟩:=hrr.row (Nat.le_refl _) (i:=i.toNat) (by omega);refine ⟨.v (.eptr row),?_,?_⟩
      · simp [V.indexAddr,hu,h1,h0,hz,k5]
      · exact RV.eptr _ _ k6.1 (vw_closed _ _ _) k6.2
     |lit0 _ a ha=>simp at hlt
   · simp at h
 · simp at h
theorem index_sim {t:TypeId} {x:UV} {i:Int} {K:UV->Option X} (h:index A t x i K=some out):
   ∃ v,K v=some out/\∀ (m:Mp) (a:V.AV),RV m x a->∃ b,V.index A t a i=some b/\RV m v b:=by
 unfold index at h;split at h
 · rename_i n e cs hu;simp only [Option.bind_eq_some_iff] at h;obtain ⟨sz,hsz,h⟩:=h;obtain ⟨k,_,hk,rfl,hc⟩:=cases_spec n 0 h;obtain ⟨v,hv,h⟩:=Option.bind_eq_some_iff.1 hc;refine ⟨v,h,fun m a ha=> ?_⟩;cases ha with
   |agg _ as hl hr=>
    obtain ⟨b,h1,h2⟩:=part_sim hv ⟨hl,hr⟩;have hr':V.inRange (k:Int) n=true:=by simp [V.inRange];omega
    exact ⟨b,by simp [V.index,hu,hr',hsz,h1],h2⟩
 · rename_i str hu;obtain ⟨h0,h⟩:=ask_some h;refine ⟨_,h,fun m a ha=> ?_⟩;cases ha with
   |str=>exact ⟨_,by simp [V.index,hu,h0],.int _ _⟩
 · simp at h
theorem RP.cons {i:Nat} {x:UV} {ps:List (Nat×UV)} {qs:List (Nat×V.AV)} (h:RP m ((i,x)::ps) qs):∃ a qs',qs=(i,a)::qs'/\RV m x a/\RP m ps qs':=by
 obtain ⟨h1,h2⟩:=h;cases qs with
 |nil=>simp at h1
 |cons q qs=>
  obtain ⟨j,a⟩:=q;simp at h1;obtain ⟨rfl,h1⟩:=h1;refine ⟨a,qs,rfl,h2.2 0 x a rfl rfl,h1,⟨by have:=h2.1;simpa using this,fun k y b k1 k2=>h2.2 (k+1) y b (by simpa using k1) (by simpa using k2)⟩⟩
theorem fillRow_sim {place:Nat->Option (Nat×Nat)}:∀ {ps:List (Nat×UV)} {qs:List (Nat×V.AV)} {row row1:List UV} {row':List V.AV},fillRow place row ps=some row1->RL m row row'->RP m ps qs->∃ row1',V.fillRow place row' qs=some row1'/\RL m row1 row1'
 |[],qs,row,row1,row',h,hr,hp=>by
  simp [fillRow] at h;subst h;have:qs=[]:=by have:=hp.1;simpa using this
  subst this;exact ⟨row',rfl,hr⟩
 |(i,x)::ps,qs,row,row1,row',h,hr,hp=>by
  obtain ⟨a,qs',rfl,hx,hp'⟩:=hp.cons;simp only [fillRow,Option.bind_eq_some_iff] at h;obtain ⟨⟨off,n⟩,hpl,cs,hcs,h⟩:=h;split at h
  case isFalse=>simp at h
  rename_i hlen;simp only [Option.bind_eq_some_iff] at h;obtain ⟨row2,hsp,h⟩:=h;obtain ⟨cs',q1,q2⟩:=cells_sim hcs hx;obtain ⟨row2',k1,k2,_⟩:=splice_sim hsp hr q2;obtain ⟨row1',k3,k4⟩:=fillRow_sim h k2 hp';refine ⟨row1',?_,k4⟩;simp only [V.fillRow,hpl,q1,Option.bind_some];rw [if_pos (by rw [q2.1];exact hlen),k1];exact k3
theorem build_sim {t:TypeId} {ps:List (Nat×UV)} {qs:List (Nat×V.AV)} {v:UV} (h:build A t ps=some v) (hp:RP m ps qs):∃ a,V.build A t qs=some a/\RV m v a:=by
 simp only [build,Option.bind_eq_some_iff] at h;obtain ⟨z,hz,h⟩:=h;obtain ⟨z',q1,q2,_⟩:=zero_sim hz;unfold V.build;simp only [q1,Option.bind_some];split at h
 · rename_i fs hu;split at h
   case isFalse=>simp at h
   rename_i hall;simp only [Option.map_eq_some_iff] at h;obtain ⟨row,hrow,rfl⟩:=h;obtain ⟨row',k1,k2⟩:=fillRow_sim hrow (q2 m) hp;exact ⟨.agg row',by rw [hu];simp only [hall,if_true,k1,Option.map_some],.agg _ _ k2.1 k2.2⟩
 · rename_i n e hu;simp only [Option.bind_eq_some_iff,Option.map_eq_some_iff] at h;obtain ⟨sz,hsz,row,hrow,rfl⟩:=h;obtain ⟨row',k1,k2⟩:=fillRow_sim hrow (q2 m) hp;exact ⟨.agg row',by rw [hu];simp only [hsz,Option.bind_some,k1,Option.map_some],.agg _ _ k2.1 k2.2⟩
 · simp at h
end
end Go.U
namespace Go.U
open Go
variable [TB:Tbl]
def srcRows (Hv:V.AH):V.AV->Option (List (List V.AV))
 | .str s=>some (V.byteRows s)
 |y=>V.rowsOf Hv y
def appRes (Hv:V.AH) (x':V.AV) (xs ys:List (List V.AV)) (zl:Nat) (te:TypeId):Option (V.AV×V.AH):=
 match x' with
 | .nils| .emp=>some (.sl Hv.bl.length 0 ys.length,V.push Hv (.cells ys zl (some (te,1))))
 | .sl b r _=>if Hv.wm<=b/\V.szOf Hv b=some zl then some (.sl Hv.bl.length 0 (xs.length+ys.length),V.push (V.setBl Hv b .dead) (.cells (xs++ys) zl (V.tyOn (V.tyOf Hv b) te r))) else none
 |_=>none
def HGo (m:Mp) (Hv:V.AH) (v:UV) (H':UH) (a:V.AV) (Hv':V.AH):Prop:=∃ m',RH m' H' Hv'/\RV m' v a/\m.Le m'/\Go' m.top m Hv m' Hv'
section
variable {A:V.Par} {glob:Nat->Option (List UV)} {m:Mp} {φ:Nat->Option Nat} {H H':UH} {Hv:V.AH} {X:Type} {out:X}
theorem HGo.same {v:UV} {a:V.AV} (hh:RH m H Hv) (hv:RV m v a):HGo m Hv v H a Hv:=⟨m,hh,hv,.refl m,.refl Hv (Nat.le_refl _)⟩
def RT (m:Mp) (c:CT) (l:List (CellT c)) (rows:List (List V.AV)):Prop:=rows.length=l.length/\RRows m (width c) l.length (vw c l) rows
theorem RT.lit {c:CT} {l:List (CellT c)} {rows:List (List V.AV)} (h:RT m c l rows):RV m (.lit c l) (.lit (width c) rows):=
 .lit c l rows h.1 (fun i row hi=>h.2.2.1 i row (by rw [<- h.1];exact getElem?_lt hi) hi) fun i row k x a h1 h2 h3=>h.2.2.2 i row k x a (by rw [<- h.1];exact getElem?_lt h1) h1 h2 h3
theorem RT.of {c:CT} {l:List (CellT c)} {rows:List (List V.AV)} (hl:rows.length=l.length) (h:∀ (i:Nat) (row:List V.AV),i<l.length->rows[i]?=some row->RL m (vw c l i) row):RT m c l rows:=
 ⟨hl,fun i _=>⟨vw_length _ _ _,vw_closed _ _ _⟩,fun i row hi hr=>by rw [(h i row hi hr).1,vw_length],fun i row k x a hi hr h1 h2=>(h i row hi hr).2 k x a h1 h2⟩
theorem RT.get {c:CT} {l:List (CellT c)} {rows:List (List V.AV)} (h:RT m c l rows) {i:Nat} {row:List V.AV} (hr:rows[i]?=some row):RL m (vw c l i) row:=by
 have hi:i<l.length:=by rw [<- h.1];exact getElem?_lt hr
 obtain ⟨row',j1,j2,j3⟩:=h.2.row (Nat.le_of_eq h.1.symm) hi;rw [hr] at j1;simp at j1;subst j1;exact j2
theorem RRows.mono {m':Mp} {z n:Nat} {f:Nat->List UV} {rows:List (List V.AV)} (h:RRows m z n f rows) (hle:m.Le m'):RRows m' z n f rows:=
 ⟨h.1,h.2.1,fun i row c x a h0 h1 h2 h3=>(h.2.2 i row c x a h0 h1 h2 h3).mono hle⟩
theorem RT.mono {m':Mp} {c:CT} {l:List (CellT c)} {rows:List (List V.AV)} (h:RT m c l rows) (hle:m.Le m'):RT m' c l rows:=⟨h.1,h.2.mono hle⟩
theorem RT.free (m':Mp) {c:CT} {l:List (CellT c)} {rows:List (List V.AV)} (h:RT m c l rows):RT m' c l rows:=
 .of h.1 fun i row hi hr=>(h.get hr).free m' (vw_closed _ _ _)
theorem RT.nil {c:CT}:RT m c [] []:= .of rfl fun i row hi=>by simp at hi
theorem vw_app {c:CT} {l l':List (CellT c)} {i:Nat}:vw c (l++l') i=if i<l.length then vw c l i else vw c l' (i-l.length):=by
 simp only [vw,List.getD_eq_getElem?_getD];split
 · rename_i h;rw [List.getElem?_append_left h]
 · rename_i h;rw [List.getElem?_append_right (by omega)]
theorem RT.append {c:CT} {l l':List (CellT c)} {rows rows':List (List V.AV)} (h:RT m c l rows) (h':RT m c l' rows'):RT m c (l++l') (rows++rows'):=
 .of (by simp [h.1,h'.1]) fun i row hi hr=>by
  rw [vw_app];split
  · rename_i hlt;rw [List.getElem?_append_left (by rw [h.1];exact hlt)] at hr;exact h.get hr
  · rename_i hge;rw [List.getElem?_append_right (by rw [h.1];omega),h.1] at hr;exact h'.get hr
theorem RT.drop {c:CT} {l:List (CellT c)} {rows:List (List V.AV)} (h:RT m c l rows) (k:Nat):RT m c (l.drop k) (rows.drop k):=
 .of (by simp [h.1]) fun i row hi hr=>by
  rw [List.getElem?_drop] at hr;have:vw c (l.drop k) i=vw c l (k+i):=by simp only [vw,List.getD_eq_getElem?_getD,List.getElem?_drop]
  rw [this];exact h.get hr
theorem RT.take {c:CT} {l:List (CellT c)} {rows:List (List V.AV)} (h:RT m c l rows) (k:Nat):RT m c (l.take k) (rows.take k):=
 .of (by simp [h.1]) fun i row hi hr=>by
  rw [List.getElem?_take] at hr;split at hr
  · rename_i hk;have:vw c (l.take k) i=vw c l i:=by simp only [vw,List.getD_eq_getElem?_getD,List.getElem?_take,if_pos hk]
    rw [this];exact h.get hr
  · simp at hr
theorem cutL_eq {α:Type} (r n:Nat) (l:List α):cutL r n l=(l.drop r).take n:=by cases r<;>rfl
theorem RT.rows {c:CT} {l:List (CellT c)} {rows:List (List V.AV)} (h:RT m c l rows) {r:List V.AV} (hr:r∈rows):r.length=width c:=by
 obtain ⟨i,hi⟩:=List.getElem?_of_mem hr;rw [(h.get hi).1,vw_length]
theorem RT.block {c:CT} {l:List (CellT c)} {rows:List (List V.AV)} {b x:Nat} (hlen:m.len b 0=l.length) (hι:m.ι b 0=some x) {ty:Option (TypeId×Nat)} (hb:Hv.bl[x]?=some (.cells rows (width c) ty)) (h:RT m c l rows):RB m Hv b (.cells c l):=
 ⟨hlen,.inr ⟨x,rows,ty,hι,hb,Nat.le_of_eq h.1.symm,h.2⟩⟩
theorem RH.newRows (hh:RH m H Hv) {c:CT} {l:List (CellT c)} {rows:List (List V.AV)} (h:RT m c l rows) {zl:Nat} (hz:zl=width c) {ty:Option (TypeId×Nat)}:HGo m Hv (.all H.bl.length) (U.push H (.cells c l)) (.sl Hv.bl.length 0 l.length) (V.push Hv (.cells rows zl ty)):=by
 subst hz;have hnew:=hh.new (y:= .cells c l) (yv:= .cells rows (width c) ty) (n:=l.length) (RT.block (add_len _ _ _ _) (add_ι _ _ _ _) (by rw [vpush_get,if_neg (by omega),if_pos rfl]) (h.mono (add_le hh _ _)));refine ⟨_,hnew.1,?_,hnew.2.1,hnew.2.2⟩;have:=RV.all (m:=m.add H.bl.length (some Hv.bl.length) l.length) H.bl.length Hv.bl.length (add_ι _ _ _ _);rw [add_len] at this;exact this
theorem elemOf_spec {t e:TypeId} {c:CT} {x:CellT c} (h:elemOf A t=some ⟨c,x⟩) (he:V.elem? A t=some e):∃ z,zero A e=some z/\dec1 c z=some x/\0<z.length/\V.size A e=some z.length/\width c=z.length:=by
 simp only [elemOf,he,Option.bind_some,Option.bind_eq_some_iff] at h;obtain ⟨z,hz,c',hc,x',hx,h⟩:=h;split at h
 · rename_i h1;simp only [Option.some.injEq,Sigma.mk.injEq] at h;obtain ⟨rfl,h2⟩:=h;have h2:=eq_of_heq h2;subst h2;exact ⟨z,hz,hx,h1⟩
 · simp at h
theorem fillRows_sim {zl:Nat}:∀ {ps:List (Nat×UV)} {qs:List (Nat×V.AV)} {rows rows1:List (List UV)} {rows':List (List V.AV)},fillRows rows ps=some rows1->RP m ps qs->rows'.length=rows.length->
  (∀ (i:Nat) (row:List UV) (row':List V.AV),rows[i]?=some row->rows'[i]?=some row'->RL m row row'/\row.length=zl)->
  ∃ rows1',V.fillRows rows' qs=some rows1'/\rows1'.length=rows1.length/\rows1.length=rows.length/\∀ (i:Nat) (row:List UV) (row':List V.AV),rows1[i]?=some row->rows1'[i]?=some row'->RL m row row'/\row.length=zl
 |[],qs,rows,rows1,rows',h,hp,hl,hr=>by
  simp [fillRows] at h;subst h;have:qs=[]:=by have:=hp.1;simpa using this
  subst this;exact ⟨rows',rfl,hl,rfl,hr⟩
 |(i,x)::ps,qs,rows,rows1,rows',h,hp,hl,hr=>by
  obtain ⟨a,qs',rfl,hx,hp'⟩:=hp.cons;simp only [fillRows,Option.bind_eq_some_iff] at h;obtain ⟨cs,hcs,row0,hrow0,h⟩:=h;split at h
  case isFalse=>simp at h
  rename_i hc;obtain ⟨cs',q1,q2⟩:=cells_sim hcs hx;have hi:=getElem?_lt hrow0;have hrow0':=List.getElem?_eq_getElem (l:=rows') (i:=i) (by omega);obtain ⟨k1,k2⟩:=hr i row0 _ hrow0 hrow0';obtain ⟨rows1',j1,j2,j3,j4⟩:=fillRows_sim (zl:=zl) (rows':=rows'.set i cs') h hp' (by simp [hl]) (fun j row row' e1 e2=>by
   rw [List.getElem?_set] at e1 e2;by_cases e:i=j
   · subst e;simp [hi] at e1;rw [if_pos rfl,if_pos (by omega)] at e2;simp at e2;subst e1;subst e2;exact ⟨q2,by omega⟩
   · rw [if_neg e] at e1 e2;exact hr j row row' e1 e2)
  refine ⟨rows1',?_,j2,by rw [j3];simp,j4⟩;simp only [V.fillRows,q1,Option.bind_some,hrow0'];rw [if_pos (by rw [q2.1,k1.1];exact hc)];exact j1
theorem deepRows_wm {c:CT}:∀ {ps:List (Nat×UV)} {i:Nat} {H H':UH} {L:List (List (CellT c))},deepRows c i ps H=some (L,H')->H'.wm=H.wm
 |[],i,H,H',L,h=>by simp [deepRows] at h;rw [h.2]
 |(j,x)::ps,i,H,H',L,h=>by
  simp only [deepRows] at h;split at h
  case isFalse=>simp at h
  split at h
  · simp only [Option.bind_eq_some_iff] at h;obtain ⟨⟨l,H1⟩,h1,h⟩:=h;simp at h;rw [<- h.2];exact deepRows_wm h1
  · simp only [Option.bind_eq_some_iff] at h;obtain ⟨⟨l,H1⟩,h1,h⟩:=h;simp at h;rw [<- h.2];exact deepRows_wm h1
  · split at h
    · split at h
      · simp only [Option.bind_eq_some_iff] at h;obtain ⟨⟨l,H1⟩,h1,h⟩:=h;simp at h;rw [<- h.2];exact (deepRows_wm h1).trans rfl
      · simp at h
    · simp at h
  · simp at h
theorem deepRows_sim {c:CT} {Hv:V.AH} {m:Mp}:∀ {ps:List (Nat×UV)} {i:Nat} {H H':UH} {L:List (List (CellT c))} {qs:List (Nat×V.AV)},deepRows c i ps H=some (L,H')->RH m H Hv->RP m ps qs->
  L.length=qs.length/\RH m H' Hv/\(∀ b,live H' b->live H b)/\(∀ r q,qs[r]?=some q->q.1=i+r/\q.2.cells?=some [q.2])/\
  ∃ F:Nat->Option Nat,(∀ r x,F r=some x->r<L.length/\∃ b,m.ι b 0=some x/\H.wm<=b/\live H b/\¬ live H' b)/\(∀ r r' x,F r=some x->F r'=some x->r=r')/\∀ r q,qs[r]?=some q->RowIs m Hv (F r) c (L.getD r []) q.2
 |[],i,H,H',L,qs,h,hh,hp=>by
  simp [deepRows] at h;obtain ⟨rfl,rfl⟩:=h;have:qs=[]:=by have:=hp.1;simpa using this
  subst this;exact ⟨rfl,hh,fun _ h=>h,fun r q h=>by simp at h,fun _=>none,fun r x h=>by simp at h,fun r r' x h=>by simp at h,fun r q h=>by simp at h⟩
 |(j,x)::ps,i,H,H',L,qs,h,hh,hp=>by
  obtain ⟨a,qs',rfl,hx,hp'⟩:=hp.cons;simp only [deepRows] at h;split at h
  case isFalse=>simp at h
  rename_i hj;subst hj;have fin:∀ {l0:List (CellT c)} {l:List (List (CellT c))} {H0 H1:UH} {o:Option Nat},deepRows c (j+1) ps H0=some (l,H1)->RH m H0 Hv->(∀ b,live H0 b->live H b)->H0.wm=H.wm->(∀ y,o=some y->∃ b,m.ι b 0=some y/\H.wm<=b/\live H b/\¬ live H0 b)->a.cells?=some [a]->RowIs m Hv o c l0 a->l0::l=L->H1=H'->
      (L.length=((j,a)::qs').length/\RH m H' Hv/\(∀ b,live H' b->live H b)/\(∀ r q,((j,a)::qs')[r]?=some q->q.1=j+r/\q.2.cells?=some [q.2])/\
      ∃ F:Nat->Option Nat,(∀ r x,F r=some x->r<L.length/\∃ b,m.ι b 0=some x/\H.wm<=b/\live H b/\¬ live H' b)/\(∀ r r' x,F r=some x->F r'=some x->r=r')/\∀ r q,((j,a)::qs')[r]?=some q->RowIs m Hv (F r) c (L.getD r []) q.2):=fun {l0 l H0 H1 o} h1 hh0 hl0 hw0 ho hca hrow hL hH=>by
    subst hL;subst hH;obtain ⟨k1,k2,k3,k4,F,k5,k6,k7⟩:=deepRows_sim h1 hh0 hp';refine ⟨by simp [k1],k2,fun b hb=>hl0 b (k3 b hb),fun r q hq=> ?_,fun r=>match r with|0=>o|r+1=>F r,fun r y hy=> ?_,fun r r' y hy hy'=> ?_,fun r q hq=> ?_⟩
    · cases r with
      |zero=>simp at hq;subst hq;exact ⟨rfl,hca⟩
      |succ r=>have:=k4 r q (by simpa using hq);exact ⟨by omega,this.2⟩
    · cases r with
      |zero=>
        obtain ⟨b,b1,b2,b3,b4⟩:=ho y hy;exact ⟨by simp,b,b1,b2,b3,fun hb=>b4 (k3 b hb)⟩
      |succ r=>
        obtain ⟨c1,b,b1,b2,b3,b4⟩:=k5 r y hy;exact ⟨by simp;omega,b,b1,by rw [<- hw0];exact b2,hl0 b b3,b4⟩
    · have cross:∀ r,o=some y->F r=some y->False:=fun r h1 h2=>by
        obtain ⟨b,b1,b2,b3,b4⟩:=ho y h1;obtain ⟨_,b',b1',b2',b3',b4'⟩:=k5 r y h2;have:=hh.inj b b' y b3 (hl0 b' b3') b1 b1';subst this;exact b4 b3'
      cases r with
      |zero=>
        cases r' with
        |zero=>rfl
        |succ r'=>exact (cross r' hy hy').elim
      |succ r=>
        cases r' with
        |zero=>exact (cross r hy' hy).elim
        |succ r'=>rw [k6 r r' y hy hy']
    · cases r with
      |zero=>simp at hq;subst hq;exact hrow
      |succ r=>exact k7 r q (by simpa using hq)
  split at h
  · simp only [Option.bind_eq_some_iff] at h;obtain ⟨⟨l,H1⟩,h1,h⟩:=h;simp at h;cases hx;exact fin (l0:=[]) (o:=none) h1 hh (fun _ h=>h) rfl (fun y h=>by simp at h) rfl (.inl ⟨rfl,rfl,.inl rfl⟩) h.1 h.2
  · simp only [Option.bind_eq_some_iff] at h;obtain ⟨⟨l,H1⟩,h1,h⟩:=h;simp at h;cases hx;exact fin (l0:=[]) (o:=none) h1 hh (fun _ h=>h) rfl (fun y h=>by simp at h) rfl (.inl ⟨rfl,rfl,.inr rfl⟩) h.1 h.2
  · rename_i b;split at h
    case h_2=>simp at h
    rename_i c' l0 hb;split at h
    case isFalse=>simp at h
    rename_i hc;obtain ⟨rfl,hwb⟩:=hc;simp only [Option.bind_eq_some_iff] at h;obtain ⟨⟨l,H1⟩,h1,h⟩:=h;simp at h;obtain ⟨k0,kx⟩:=cells_block (s:=⟨[],[],H,0⟩) (sv:=⟨[],[],Hv⟩) hh hb;have hlive:live H b:=⟨_,hb,rfl⟩;have hnl:∀ b',live (setBl H b .dead) b'->b'≠b/\live H b':=fun b' h=>by
      rcases live_set h with ⟨_,h'⟩|h'
      · simp [liveB] at h'
      · exact h'
    cases hx with
    |all _ x hx0=>
      obtain ⟨rows,ty,k2,k3,k4⟩:=kx x hx0;exact fin (l0:=l0) (o:=some x) h1 (hh.kill b) (fun b' h=>(hnl b' h).2) rfl (fun y e=>by simp at e;subst e;exact ⟨b,hx0,hwb,hlive,fun hb=>(hnl b hb).1 rfl⟩) rfl (.inr ⟨x,rows,ty,rfl,by rw [k0],k2,k3,k4⟩) h.1 h.2
    |all0 _ _ _ hl ha=>exact fin (l0:=l0) (o:=none) h1 (hh.kill b) (fun b' h=>(hnl b' h).2) rfl (fun y e=>by simp at e) (by rcases ha with rfl|rfl<;>rfl) (.inl ⟨by rw [<- k0];exact hl,rfl,ha⟩) h.1 h.2
  · simp at h
theorem fillRows_all {z:List V.AV} (hz:z.length=1):∀ {qs:List (Nat×V.AV)} {pre:List (List V.AV)},(∀ r q,qs[r]?=some q->q.1=pre.length+r/\q.2.cells?=some [q.2])->V.fillRows (pre++List.replicate qs.length z) qs=some (pre++qs.map fun q=>[q.2])
 |[],pre,_=>by simp [V.fillRows]
 |(j,a)::qs,pre,h=>by
  obtain ⟨h1,h2⟩:=h 0 (j,a) rfl;simp only [Nat.add_zero] at h1 h2;subst h1;have hg:(pre++List.replicate (qs.length+1) z)[pre.length]?=some z:=by simp [List.getElem?_append_right,List.getElem?_replicate]
  have hs:(pre++List.replicate (qs.length+1) z).set pre.length [a]=(pre++[[a]])++List.replicate qs.length z:=by
   rw [List.set_append_right _ _ (Nat.le_refl _),Nat.sub_self,List.replicate_succ,List.set_cons_zero,List.append_assoc];rfl
  have ih:=fillRows_all hz (qs:=qs) (pre:=pre++[[a]]) fun r q hq=>by
   obtain ⟨k1,k2⟩:=h (r+1) q (by simpa using hq);exact ⟨by simp;omega,k2⟩
  simp only [V.fillRows,h2,Option.bind_some,List.length_cons,hg];rw [if_pos (by simp [hz]),hs,ih]
  simp
theorem buildSlice_sim {t:TypeId} {n:Nat} {ps:List (Nat×UV)} {qs:List (Nat×V.AV)} {v:UV} (h:buildSlice A H t n ps=some (v,H')) (hh:RH m H Hv) (hp:RP m ps qs):∃ a Hv',V.buildSlice A Hv t n qs=some (a,Hv')/\HGo m Hv v H' a Hv':=by
 simp only [buildSlice,Option.bind_eq_some_iff] at h;obtain ⟨e,he,z,hz,⟨c,x0⟩,hel,h⟩:=h;obtain ⟨z0,hz0,hd0,hpos,hsz,hwc⟩:=elemOf_spec hel he;rw [hz] at hz0;simp at hz0;subst hz0;obtain ⟨z',q1,q2,q3⟩:=zero_sim hz;have hzl:z'.length=z.length:=(q2 m).1;simp only at h;split at h
 case isFalse=>simp at h
 rename_i hc;unfold V.buildSlice;simp only [he,q1,Option.bind_some];rw [if_pos (by rw [hzl];exact ⟨hc,hpos,hsz⟩)];have hql:qs.length=ps.length:=by have:=congrArg List.length hp.1;simpa using this
 split at h
 · rename_i h0;simp at h;obtain ⟨rfl,rfl⟩:=h;rw [if_pos (by rw [hql];exact h0)];exact ⟨_,_,rfl,.same hh .emp⟩
 · rename_i h0;rw [if_neg (by rw [hql];exact h0)];split at h
   · rename_i r0 hdo;simp at h;subst h;unfold deepOf at hdo;split at hdo
     case h_2=>simp at hdo
     rename_i c1 x1 hel';rw [hel] at hel';simp at hel';obtain ⟨rfl,_⟩:=hel';split at hdo
     case isFalse=>simp at hdo
     rename_i hcn;obtain ⟨hlen,hany⟩:=hcn;simp only [Option.bind_eq_some_iff] at hdo;obtain ⟨⟨L,H1⟩,hdr,hdo⟩:=hdo;simp at hdo;obtain ⟨rfl,rfl⟩:=hdo;obtain ⟨k1,k2,k3,k4,F,k5,k6,k7⟩:=deepRows_sim hdr hh hp;have hz1:z'.length=1:=by rw [hzl,<- hwc];rfl
     have hfill:=fillRows_all hz1 (qs:=qs) (pre:=[]) (fun r q hq=>by obtain ⟨j1,j2⟩:=k4 r q hq;exact ⟨by simpa using j1,j2⟩);simp only [List.nil_append] at hfill;rw [hql,hlen] at hfill;have hnew:=k2.newDeep (c:=c1) (L:=L) (rows:=qs.map fun q=>[q.2]) (ty:=some (e,1)) (F:=F) (by simp [k1]) (fun r x h=>by
        obtain ⟨_,b,b1,b2,b3,b4⟩:=k5 r x h;exact ⟨⟨b,0,b1⟩,hh.wm b x b1 b2,fun b' s' hl' e'=>b4 ((hh.inj b' b x (k3 b' hl') b3 e' b1) ▸ hl')⟩) k6
       (fun r hr=>by
        cases hf:F r with
        |none=>rfl
        |some x=>have:=(k5 r x hf).1;omega) (fun r hr=>by
        have hq:=List.getElem?_eq_getElem (l:=qs) (i:=r) (by omega);exact ⟨_,by rw [List.getElem?_map,hq];rfl,k7 r _ hq⟩)
     have hLn:L.length=n:=by rw [k1,hql,hlen]
     rw [hLn] at hnew;exact ⟨.sl Hv.bl.length 0 n,V.push Hv (.cells (qs.map fun q=>[q.2]) z'.length (some (e,1))),by rw [hfill];rfl,by rw [hz1];exact hnew⟩
   simp only [Option.bind_eq_some_iff] at h;obtain ⟨rows,hrows,l,hl,h⟩:=h;simp at h;obtain ⟨rfl,rfl⟩:=h;obtain ⟨rows',k1,k2,k3,k4⟩:=fillRows_sim (zl:=z.length) (rows':=List.replicate n z') hrows hp (by simp) (fun i row row' e1 e2=>by
     rw [List.getElem?_replicate] at e1 e2;split at e1
     · rename_i hi;rw [if_pos hi] at e2;simp at e1 e2;subst e1;subst e2;exact ⟨q2 m,rfl⟩
     · simp at e1)
   obtain ⟨d1,d2⟩:=decL_sim (m:=m) hl;have hn:rows.length=n:=by rw [k3];simp
   have hrt:RT m c l rows':= .of (by rw [k2,d1]) fun i row hi hr=>by
     have hr0:=List.getElem?_eq_getElem (l:=rows) (i:=i) (by omega);exact d2 i _ hr0 (k4 i _ row hr0 hr).1
   have hln:l.length=n:=by rw [d1,hn]
   have:=hh.newRows hrt (zl:=z'.length) (by rw [hzl,hwc]) (ty:=some (e,1));rw [hln] at this;exact ⟨.sl Hv.bl.length 0 n,V.push Hv (.cells rows' z'.length (some (e,1))),by simp [k1],this⟩
theorem makeSlice_sim {t:TypeId} {l c:UV} {K:UV->UH->Option X} (h:makeSlice A H t l c K=some out):
  ∃ v H',K v H'=some out/\H'.wm=H.wm/\∀ (m:Mp) (Hv:V.AH) (l' c':V.AV),RH m H Hv->RV m l l'->RV m c c'->∃ a Hv',V.makeSlice A Hv t l' c'=some (a,Hv')/\HGo m Hv v H' a Hv':=by
 unfold makeSlice at h;split at h
 case h_2=>simp at h
 rename_i k1 l0 k2 c0;simp only [Option.bind_eq_some_iff] at h;obtain ⟨e,he,⟨ct,x0⟩,hel,n,hn,h⟩:=h;obtain ⟨z,hz,hd0,hpos,hsz,hwc⟩:=elemOf_spec hel he;obtain ⟨h0,h⟩:=ask_some h;simp only [Bool.and_eq_true,decide_eq_true_eq] at h0;refine ⟨_,_,h,rfl,fun m Hv l' c' hh hl hcc=> ?_⟩;cases hl;cases hcc;obtain ⟨z',q1,q2,q3⟩:=zero_sim hz;have hzl:z'.length=z.length:=(q2 m).1;have hrt:RT m ct (List.replicate l0.toNat x0) (List.replicate l0.toNat z'):= .of (by simp) fun i row hi hr=>by
  rw [List.length_replicate] at hi;rw [List.getElem?_replicate,if_pos hi] at hr;simp at hr;subst hr;have:vw ct (List.replicate l0.toNat x0) i=enc ct x0:=by simp [vw,List.getD_eq_getElem?_getD,List.getElem?_replicate,hi]
  rw [this];exact dec1_sim hd0 (q2 m)
 have:=hh.newRows hrt (zl:=z'.length) (by rw [hzl,hwc]) (ty:=some (e,1));rw [List.length_replicate] at this;refine ⟨.sl Hv.bl.length 0 l0.toNat,V.push Hv (.cells (List.replicate l0.toNat z') z'.length (some (e,1))),?_,this⟩;simp only [V.makeSlice,he,q1,hn,Option.bind_some];rw [if_pos ⟨h0.1.1.1,h0.1.1.2,h0.1.2,h0.2,by rw [hzl];exact hpos,by rw [hzl];exact hsz⟩]
theorem bytes_rows (m:Mp) (s:ByteArray):RT m (.int .u8) (bytL s) (V.byteRows s):=by
 refine .of (by simp only [V.byteRows,List.length_map];exact (List.length_map ..).symm) fun i row hi hr=> ?_
 simp only [V.byteRows,List.getElem?_map,Option.map_eq_some_iff] at hr;obtain ⟨b,hb,rfl⟩:=hr;have h1:(bytL s)[i]?=some ((b.toNat:Nat):Int):=by
  simp only [bytL,List.getElem?_map,hb,Option.map_some]
 have h2:vw (.int .u8) (bytL s) i=[.int .u8 ((b.toNat:Nat):Int)]:=
  congrArg (fun o:Option Int=>[UV.int .u8 (o.getD 0)]) h1
 rw [h2];exact .cons (.int _ _) .nil
theorem rowsOf_sim {y:UV} {c:CT} {g:List (CellT c)} {a:V.AV} (h:rowsOf H c y=some g) (hh:RH m H Hv) (hy:RV m y a):∃ rows,srcRows Hv a=some rows/\RT m c g rows:=by
 cases hy with
 |lit c' l rows h1 h2 h3=>
  simp only [rowsOf] at h;split at h
  case isFalse=>simp at h
  rename_i hc;subst hc;simp at h;subst h;exact ⟨rows,rfl,h1,fun i _=>⟨vw_length _ _ _,vw_closed _ _ _⟩,fun i row _=>h2 i row,fun i row k x a _=>h3 i row k x a⟩
 |lit0 c' a ha=>
  simp only [rowsOf] at h;split at h
  case isFalse=>simp at h
  rename_i hc;subst hc;simp at h;subst h;exact ⟨[],by rcases ha with rfl|rfl<;>rfl,.nil⟩
 |all b x hx=>
  simp only [rowsOf] at h;split at h
  case h_2=>simp at h
  rename_i c' l hb;split at h
  case isFalse=>simp at h
  rename_i hc;subst hc;simp at h;subst h;obtain ⟨k0,k1⟩:=cells_block (s:=⟨[],[],H,0⟩) (sv:=⟨[],[],Hv⟩) hh hb;obtain ⟨rows,ty,k2,k3,k4⟩:=k1 x hx;have k2':Hv.bl[x]?=some (.cells rows (width c') ty):=k2;refine ⟨rows.take l.length,?_,.of (by simp;omega) fun i row hi hr=> ?_⟩
  · show V.rowsOf Hv (.sl x 0 (m.len b 0))=_;simp only [V.rowsOf,k2'];rw [if_pos (by omega),k0];simp
  · rw [List.getElem?_take,if_pos hi] at hr;obtain ⟨row',j1,j2,j3⟩:=k4.row k3 hi;rw [j1] at hr;simp at hr;subst hr;exact j2
 |all0 b a hlt hl ha=>
  simp only [rowsOf] at h;split at h
  case h_2=>simp at h
  rename_i c' l hb;split at h
  case isFalse=>simp at h
  rename_i hc;subst hc;simp at h;subst h;obtain ⟨k0,k1⟩:=cells_block (s:=⟨[],[],H,0⟩) (sv:=⟨[],[],Hv⟩) hh hb;have:l=[]:=by rw [hl] at k0;exact List.length_eq_zero_iff.1 k0.symm
  subst this;exact ⟨[],by rcases ha with rfl|rfl<;>rfl,.nil⟩
 |sl b r n0 x hx hle=>
  simp only [rowsOf] at h;split at h
  case h_2=>simp at h
  rename_i c' l hb;split at h
  case isFalse=>simp at h
  rename_i hc;subst hc;simp at h;subst h;obtain ⟨k0,k1⟩:=cells_block (s:=⟨[],[],H,0⟩) (sv:=⟨[],[],Hv⟩) hh hb;obtain ⟨rows,ty,k2,k3,k4⟩:=k1 x hx;have k2':Hv.bl[x]?=some (.cells rows (width c') ty):=k2;have hfull:RT m c' l (rows.take l.length):= .of (by simp;omega) fun i row hi hr=>by
    rw [List.getElem?_take,if_pos hi] at hr;obtain ⟨row',j1,j2,j3⟩:=k4.row k3 hi;rw [j1] at hr;simp at hr;subst hr;exact j2
  refine ⟨(rows.drop r).take n0,?_,?_⟩
  · show V.rowsOf Hv (.sl x r n0)=_;simp only [V.rowsOf,k2'];rw [if_pos (by omega)]
  · rw [cutL_eq];have:=(hfull.drop r).take n0;rw [List.drop_take,List.take_take,Nat.min_eq_left (by omega)] at this;exact this
 |dsl b r x hx=>
  simp only [rowsOf] at h;split at h
  case h_2=>simp at h
  rename_i c' l hb;split at h
  case isFalse=>simp at h
  rename_i hc;subst hc;have h:some (l.getD r [])=some g:=h;injection h with h
  subst h;obtain ⟨_,k1,_⟩:=deep_block (s:=⟨[],[],H,0⟩) (sv:=⟨[],[],Hv⟩) hh hb;obtain ⟨hrl,rows,ty,k2,k3,k4⟩:=deep_row (s:=⟨[],[],H,0⟩) (sv:=⟨[],[],Hv⟩) hh hb hx;have k2':Hv.bl[x]?=some (.cells rows (width c') ty):=k2;refine ⟨rows.take (l.getD r []).length,?_,.of (by rw [List.length_take];omega) fun i row hi hr=> ?_⟩
  · show V.rowsOf Hv (.sl x 0 (m.len b (r+1)))=_;simp only [V.rowsOf,k2'];rw [k1 r,if_pos (by omega)];simp
  · rw [List.getElem?_take,if_pos hi] at hr;obtain ⟨row',j1,j2,j3⟩:=k4.row k3 hi;rw [j1] at hr;simp at hr;subst hr;exact j2
 |dsl0 b r a hlt hl ha=>
  simp only [rowsOf] at h;split at h
  case h_2=>simp at h
  rename_i c' l hb;split at h
  case isFalse=>simp at h
  rename_i hc;subst hc;have h:some (l.getD r [])=some g:=h;injection h with h
  subst h;obtain ⟨_,k1,_⟩:=deep_block (s:=⟨[],[],H,0⟩) (sv:=⟨[],[],Hv⟩) hh hb;have:l.getD r []=[]:=by rw [k1 r] at hl;exact List.length_eq_zero_iff.1 hl
  rw [this];exact ⟨[],by rcases ha with rfl|rfl<;>rfl,.nil⟩
 |sl0 b r a ha=>
  simp only [rowsOf] at h;split at h
  case h_2=>simp at h
  rename_i c' l hb;split at h
  case isFalse=>simp at h
  rename_i hc;subst hc;simp at h;subst h;exact ⟨[],by rcases ha with rfl|rfl<;>rfl,by rw [cutL_eq];exact .nil⟩
 |str s=>
  simp only [rowsOf] at h;split at h
  case isFalse=>simp at h
  rename_i hc;subst hc;injection h with h
  subst h;exact ⟨V.byteRows s,rfl,bytes_rows m s⟩
 |_=>simp [rowsOf] at h
def Free (m:Mp) (H:UH) (Hv:V.AH) (x:Nat):Prop:=(∃ b s,m.ι b s=some x)/\Hv.wm<=x/\∀ b s,live H b->m.ι b s≠some x
theorem deep_join (hh:RH m H Hv) {c:CT} {f g:List (List (CellT c))} {xs ys:List (List V.AV)} {Fx Fy:Nat->Option Nat} {ty:Option (TypeId×Nat)} (hfx:xs.length=f.length) (hgy:ys.length=g.length)
   (hFx:∀ r x,r<f.length->Fx r=some x->Free m H Hv x) (hFy:∀ r x,Fy r=some x->Free m H Hv x) (hxi:∀ r r' x,r<f.length->r'<f.length->Fx r=some x->Fx r'=some x->r=r') (hyi:∀ r r' x,Fy r=some x->Fy r'=some x->r=r')
   (hxy:∀ r r' x,r<f.length->Fx r=some x->Fy r'≠some x) (hyo:∀ r,g.length<=r->Fy r=none) (hrx:∀ r,r<f.length->∃ a,xs[r]?=some [a]/\RowIs m Hv (Fx r) c (f.getD r []) a) (hry:∀ r,r<g.length->∃ a,ys[r]?=some [a]/\RowIs m Hv (Fy r) c (g.getD r []) a):
   HGo m Hv (.all H.bl.length) (push H (.deep c (f++g))) (.sl Hv.bl.length 0 (f++g).length) (V.push Hv (.cells (xs++ys) 1 ty)):=by
 have hF:∀ r x,(if r<f.length then Fx r else Fy (r-f.length))=some x->Free m H Hv x:=fun r x h=>by
   split at h
   · rename_i hr;exact hFx r x hr h
   · exact hFy _ x h
 refine hh.newDeep (F:=fun r=>if r<f.length then Fx r else Fy (r-f.length)) (by simp [hfx,hgy]) hF (fun r r' x h1 h2=> ?_) (fun r hr=> ?_) (fun r hr=> ?_)
 · split at h1<;>split at h2
   · rename_i a b;exact hxi r r' x a b h1 h2
   · rename_i a b;exact (hxy r _ x a h1 h2).elim
   · rename_i a b;exact (hxy r' _ x b h2 h1).elim
   · have:=hyi _ _ x h1 h2;omega
 · rw [List.length_append] at hr;rw [if_neg (by omega)];exact hyo _ (by omega)
 · rw [List.length_append] at hr;by_cases h:r<f.length
   · obtain ⟨a,k1,k2⟩:=hrx r h;refine ⟨a,by rw [List.getElem?_append_left (by omega)];exact k1,?_⟩;rw [if_pos h];simp only [List.getD_eq_getElem?_getD] at k2 ⊢;rw [List.getElem?_append_left h];exact k2
   · obtain ⟨a,k1,k2⟩:=hry (r-f.length) (by omega);refine ⟨a,by rw [List.getElem?_append_right (by omega),hfx];exact k1,?_⟩;rw [if_neg h];simp only [List.getD_eq_getElem?_getD] at k2 ⊢;rw [List.getElem?_append_right (by omega)];exact k2
theorem deepY_spec {y:UV} {b:Nat} {c:CT} {a:List (CellT c)} {l:List (List (CellT c))} (h:deepY H y=some (b,⟨c,a,l⟩)):y= .all b/\H.bl[b]?=some (.deep c (a::l))/\H.wm<=b:=by
 unfold deepY at h;split at h
 · rename_i b0;split at h
   · rename_i c0 a0 l0 hb;split at h
     · rename_i hw;simp only [Option.some.injEq,Prod.mk.injEq,Sigma.mk.injEq] at h;obtain ⟨rfl,rfl,h⟩:=h;have h:=eq_of_heq h;simp only [Prod.mk.injEq] at h;obtain ⟨rfl,rfl⟩:=h;exact ⟨rfl,hb,hw⟩
     · simp at h
   · simp at h
 · simp at h
theorem deepX_spec {x:UV} {b:Nat} {c:CT} {f:List (List (CellT c))} {H0:UH} (h:deepX H c b x=some (f,H0)):
   ((x= .nils\/x= .emp)/\f=[]/\H0=setBl H b .dead)\/∃ b1,x= .all b1/\H.bl[b1]?=some (.deep c f)/\b1≠b/\H.wm<=b1/\H0=setBl (setBl H b1 .dead) b .dead:=by
 unfold deepX at h;split at h
 · simp at h;exact .inl ⟨.inl rfl,h.1.symm ▸ rfl,h.2.symm⟩
 · simp at h;exact .inl ⟨.inr rfl,h.1.symm ▸ rfl,h.2.symm⟩
 · rename_i b1;split at h
   · rename_i c' l hb;split at h
     · rename_i hc;obtain ⟨rfl,h1,h2⟩:=hc;simp at h;obtain ⟨rfl,rfl⟩:=h;exact .inr ⟨b1,rfl,hb,h1,h2,rfl⟩
     · simp at h
   · simp at h
 · simp at h
theorem append_sim {ts:Array TypeId} {x y:UV} {K:UV->UH->Option X} (h:append A H ts x y K=some out):
   ∃ v H',K v H'=some out/\H'.wm=H.wm/\∀ (m:Mp) (Hv:V.AH) (x' y':V.AV),RH m H Hv->RV m x x'->RV m y y'->∃ a Hv',V.append A Hv ts x' y'=some (a,Hv')/\HGo m Hv v H' a Hv':=by
 simp only [append,Option.bind_eq_some_iff] at h;obtain ⟨t,ht,e,he,⟨c,x0⟩,hel,nb,hnb,_,hty,h⟩:=h;obtain ⟨z,hz,hd0,hpos,hsz,hwc⟩:=elemOf_spec hel he;obtain ⟨z',q1,q2,q3⟩:=zero_sim hz;have hzl:z'.length=z.length:=(q2 ⟨fun _ _=>none,fun _ _=>0,0⟩).1;simp only at h;have vside:∀ (Hv:V.AH) (x' y':V.AV) (xs ys:List (List V.AV)),V.rowsOf Hv x'=some xs->srcRows Hv y'=some ys->
     (xs.length+ys.length) * nb<=70368744177664->xs.length+ys.length<9223372036854775808->(∀ r∈ys,r.length=width c)->
     V.append A Hv ts x' y'=if ys.length=0 then some (x',Hv) else appRes Hv x' xs ys z'.length e:=fun Hv x' y' xs ys h1 h2 h3 h4 h5=>by
   unfold V.append;simp only [ht,he,q1,hnb,Option.bind_some];have fin:(V.rowsOf Hv x').bind (fun xs=>(srcRows Hv y').bind fun ys=>
     if (xs.length+ys.length) * nb<=70368744177664/\xs.length+ys.length<9223372036854775808/\0<z'.length/\V.size A e=some z'.length/\ys.all (fun r=>r.length==z'.length) then
       if ys.length=0 then some (x',Hv) else appRes Hv x' xs ys z'.length e
     else none)=if ys.length=0 then some (x',Hv) else appRes Hv x' xs ys z'.length e:=by
     rw [h1,Option.bind_some,h2,Option.bind_some,if_pos ⟨h3,h4,by rw [hzl];exact hpos,by rw [hzl];exact hsz,List.all_eq_true.2 fun r hr=>by simp [hzl,<- hwc];exact h5 r hr⟩]
   cases h1':ts[1]? with
   |none=>exact fin
   |some u=>
     rw [h1'] at hty;cases hu:A.P.underlying u with
     |none=>simp [hu] at hty
     |some d=>
       simp only [hu] at hty;simp only [hu];cases d<;>first|exact fin|(simp at hty)
 have hzw:z'.length=width c:=by rw [hzl,hwc]
 have hnone:∀ {y:UV},(y= .nils\/y= .emp)->(x= .nils\/x= .emp)->K x H=some out->∃ v H',K v H'=some out/\H'.wm=H.wm/\∀ (m:Mp) (Hv:V.AH) (x' y':V.AV),RH m H Hv->RV m x x'->RV m y y'->∃ a Hv',V.append A Hv ts x' y'=some (a,Hv')/\HGo m Hv v H' a Hv':=fun {y} hy hx h=>by
   refine ⟨x,H,h,rfl,fun m Hv x' y' hh hxr hyr=> ?_⟩;have hys:srcRows Hv y'=some []:=by rcases hy with rfl|rfl<;>cases hyr<;>rfl
   have hxs:V.rowsOf Hv x'=some []:=by rcases hx with rfl|rfl<;>cases hxr<;>rfl
   exact ⟨x',Hv,by rw [vside Hv x' y' [] [] hxs hys (by simp) (by simp) (by simp)];rfl,.same hh hxr⟩
 have onNil:∀ {m:Mp} {H0:UH} {Hv:V.AH} {x' y':V.AV} {g:List (CellT c)} {ys:List (List V.AV)},RH m H0 Hv->(x'= .nils\/x'= .emp)->srcRows Hv y'=some ys->RT m c g ys->
     g.length * nb<=70368744177664->g.length<9223372036854775808->∃ a Hv',V.append A Hv ts x' y'=some (a,Hv')/\HGo m Hv (.all H0.bl.length) (push H0 (.cells c g)) a Hv':=fun {m H0 Hv x' y' g ys} hh hxn k1 k2 h1 h2=>by
   have hxs:V.rowsOf Hv x'=some []:=by rcases hxn with rfl|rfl<;>rfl
   have hv:=vside Hv x' y' [] ys hxs k1 (by simpa [k2.1] using h1) (by simpa [k2.1] using h2) (fun r hr=>k2.rows hr);by_cases hny:g.length=0
   · rw [if_pos (by rw [k2.1];exact hny)] at hv;have hp:=hh.push (Hv':=Hv) (y:= .cells c g) (x:=none) (n:=0) (fun _ _ _ _ _=>rfl) (Nat.le_refl _) rfl (fun xv e=>by simp at e) ⟨by rw [add_len];exact hny.symm,.inl ⟨hny,add_ι _ _ _ _⟩⟩;refine ⟨x',Hv,hv,_,hp.1,.all0 _ x' (by simp [Mp.add,Mp.addF]) (add_len _ _ _ _) hxn,hp.2,⟨add_old hh _ _,fun _ _ _=>rfl,fun b _ xv hb=> ?_,Nat.le_refl _,rfl⟩⟩;by_cases e:b=H0.bl.length
     · subst e;obtain ⟨_,e⟩:=add_ιs hb;simp at e
     · rw [add_ι_ne _ _ _ e] at hb;exact .inl ⟨b,_,hb⟩
   · rw [if_neg (by rw [k2.1];exact hny)] at hv;refine ⟨.sl Hv.bl.length 0 g.length,V.push Hv (.cells ys z'.length (some (e,1))),?_,hh.newRows k2 hzw⟩;rw [hv];rcases hxn with rfl|rfl<;>simp [appRes,k2.1]
 have hnil:∀ {g:List (CellT c)},(x= .nils\/x= .emp)->rowsOf H c y=some g->ask (decide (g.length * nb<=70368744177664)&&decide (g.length<9223372036854775808)) (K (.all H.bl.length) (push H (.cells c g)))=some out->
     ∃ v H',K v H'=some out/\H'.wm=H.wm/\∀ (m:Mp) (Hv:V.AH) (x' y':V.AV),RH m H Hv->RV m x x'->RV m y y'->∃ a Hv',V.append A Hv ts x' y'=some (a,Hv')/\HGo m Hv v H' a Hv':=fun {g} hx hrows h=>by
   obtain ⟨h0,h⟩:=ask_some h;simp only [Bool.and_eq_true,decide_eq_true_eq] at h0;refine ⟨_,_,h,rfl,fun m Hv x' y' hh hxr hyr=> ?_⟩;obtain ⟨ys,k1,k2⟩:=rowsOf_sim hrows hh hyr;have hxn:x'= .nils\/x'= .emp:=by rcases hx with rfl|rfl<;>cases hxr<;>simp
   exact onNil hh hxn k1 k2 h0.1 h0.2
 have hgo:∀ {b n0 r0:Nat} {f g:List (CellT c)},(g=[]->r0=0)->H.wm<=b->rowsOf H c x=some f->rowsOf H c y=some g->(∀ {m:Mp} {Hv:V.AH} {x':V.AV},RH m H Hv->RV m x x'->n0=f.length/\((∃ xi,m.ι b 0=some xi/\x'= .sl xi r0 n0)\/((x'= .nils\/x'= .emp)/\f=[])))->(∃ c' l',H.bl[b]?=some (.cells c' l')/\c'=c)->
     ask (decide ((n0+g.length) * nb<=70368744177664)&&decide (n0+g.length<9223372036854775808)) (K (.all H.bl.length) (push (setBl H b .dead) (.cells c (f++g))))=some out->
     ∃ v H',K v H'=some out/\H'.wm=H.wm/\∀ (m:Mp) (Hv:V.AH) (x' y':V.AV),RH m H Hv->RV m x x'->RV m y y'->∃ a Hv',V.append A Hv ts x' y'=some (a,Hv')/\HGo m Hv v H' a Hv':=fun {b n0 r0 f g} hg0 hwb hfx hrows hsh ⟨c',l',hb,hcc⟩ h=>by
   obtain ⟨h0,h⟩:=ask_some h;simp only [Bool.and_eq_true,decide_eq_true_eq] at h0;refine ⟨_,_,h,rfl,fun m Hv x' y' hh hxr hyr=> ?_⟩;obtain ⟨ys,k1,k2⟩:=rowsOf_sim hrows hh hyr;obtain ⟨xs,j1,j2⟩:=rowsOf_sim hfx hh hxr;have hlive:live H b:=⟨_,hb,rfl⟩;have hkill:=hh.kill b;have hnl:∀ {b'},live (setBl H b .dead) b'->b'≠b/\live H b':=fun h=>by
     rcases live_set h with ⟨_,h'⟩|h'
     · simp [liveB] at h'
     · exact h'
   have hlen:(setBl H b .dead).bl.length=H.bl.length:=by simp [setBl]
   obtain ⟨hn0,hsh⟩:=hsh hh hxr;rcases hsh with ⟨xi,hxi,rfl⟩|⟨hxn,rfl⟩
   · have j1':V.rowsOf Hv (.sl xi r0 n0)=some xs:=j1;have hwmx:=hh.wm b xi hxi hwb;subst hcc;obtain ⟨kb,kx⟩:=cells_block (s:=⟨[],[],H,0⟩) (sv:=⟨[],[],Hv⟩) hh hb;obtain ⟨rows,ty,i2,i3,i4⟩:=kx xi hxi;have i2':Hv.bl[xi]?=some (.cells rows (width c') ty):=i2;have hv:=vside Hv (.sl xi r0 n0) y' xs ys j1' k1 (by rw [j2.1,k2.1,<- hn0];exact h0.1) (by rw [j2.1,k2.1,<- hn0];exact h0.2) (fun r hr=>k2.rows hr);by_cases hny:g.length=0
     · rw [if_pos (by rw [k2.1];exact hny)] at hv;have hge:g=[]:=List.length_eq_zero_iff.1 hny;have hr0:=hg0 hge;subst hr0;subst hge;rw [List.append_nil];have hp:=hkill.push (Hv':=Hv) (y:= .cells c' f) (x:=some xi) (n:=f.length) (fun _ _ _ _ _=>rfl) (Nat.le_refl _) rfl (fun xv e=>by
         simp at e;subst e;exact ⟨(hh.dom b xi hxi).2,hwmx,fun b' s' hl' e'=>(hnl hl').1 (hh.inj b' b xi (hnl hl').2 hlive e' hxi)⟩) (by
         have j1'':=j1';simp only [V.rowsOf,i2'] at j1'';split at j1''
         case isFalse=>simp at j1''
         rename_i hle;simp at j1'';refine ⟨add_len _ _ _ _,.inr ⟨xi,rows,ty,add_ι _ _ _ _,i2',by omega,?_⟩⟩;refine ⟨fun i _=>⟨vw_length _ _ _,vw_closed _ _ _⟩,fun i row hi hr=> ?_,fun i row k y a hi hr h1 h2=> ?_⟩
         · have:xs[i]?=some row:=by rw [<- j1'',List.getElem?_take,if_pos (by omega)];exact hr
           exact j2.rows (List.mem_of_getElem? this)
         · have:xs[i]?=some row:=by rw [<- j1'',List.getElem?_take,if_pos (by omega)];exact hr
           exact ((j2.get this).free _ (vw_closed _ _ _)).2 k y a h1 h2)
       rw [hlen] at hp;refine ⟨.sl xi 0 n0,Hv,hv,_,hp.1,?_,hp.2,⟨by have:=add_old hkill;simpa only [hlen] using this _ _,fun _ _ _=>rfl,fun b' _ xv hb'=> ?_,Nat.le_refl _,rfl⟩⟩
       · have:=RV.all (m:=m.add H.bl.length (some xi) f.length) H.bl.length xi (add_ι _ _ _ _);rw [add_len,<- hn0] at this;rw [hn0] at this ⊢;exact this
       · by_cases e:b'=H.bl.length
         · subst e;obtain ⟨_,e⟩:=add_ιs hb';simp at e;subst e;exact .inl ⟨b,_,hxi⟩
         · rw [add_ι_ne _ _ _ e] at hb';exact .inl ⟨b',_,hb'⟩
     · rw [if_neg (by rw [k2.1];exact hny)] at hv;have hoth:=hkill.other (x:=xi) (fun b' s' hl' e'=>(hnl hl').1 (hh.inj b' b xi (hnl hl').2 hlive e' hxi)) .dead;have hnew:=hoth.newRows (j2.append k2) (zl:=z'.length) hzw (ty:=V.tyOn (V.tyOf Hv xi) e r0);rw [hlen] at hnew;have hvl:(V.setBl Hv xi .dead).bl.length=Hv.bl.length:=by simp [V.setBl]
       rw [hvl] at hnew;obtain ⟨m',e1,e2,e3,e4⟩:=hnew;have g1:Go' m.top m Hv m (V.setBl Hv xi .dead):=⟨.refl (Nat.le_refl _),fun x' hx' hn'=>by rw [vset_get,if_neg (fun e=>hn' b 0 (by rw [<- e];exact hxi))],fun b' s' x' hb'=> .inl ⟨b',s',hb'⟩,by simp [V.setBl],rfl⟩;refine ⟨_,_,?_,m',e1,e2,e3,g1.trans e4 (Nat.le_refl _)⟩;rw [hv];simp only [appRes];rw [if_pos ⟨hwmx,by simp only [V.szOf,i2'];rw [hzw]⟩,j2.1,k2.1,List.length_append]
   · rw [List.nil_append];simp only [List.length_nil] at hn0;have:=onNil hkill hxn k1 k2 (by simpa [hn0] using h0.1) (by simpa [hn0] using h0.2);rw [hlen] at this;exact this
 have hkeep:∀ {y:UV},(y= .nils\/y= .emp)->((rowsOf H c x).bind fun f=>ask (decide (f.length * nb<=70368744177664)&&decide (f.length<9223372036854775808)) (K x H))=some out->(∀ s,x≠ .str s)->
     ∃ v H',K v H'=some out/\H'.wm=H.wm/\∀ (m:Mp) (Hv:V.AH) (x' y':V.AV),RH m H Hv->RV m x x'->RV m y y'->∃ a Hv',V.append A Hv ts x' y'=some (a,Hv')/\HGo m Hv v H' a Hv':=fun {y} hy h hns=>by
   simp only [Option.bind_eq_some_iff] at h;obtain ⟨f,hf,h⟩:=h;obtain ⟨h0,h⟩:=ask_some h;simp only [Bool.and_eq_true,decide_eq_true_eq] at h0;refine ⟨x,H,h,rfl,fun m Hv x' y' hh hxr hyr=> ?_⟩;have hys:srcRows Hv y'=some []:=by rcases hy with rfl|rfl<;>cases hyr<;>rfl
   obtain ⟨xs,j1,j2⟩:=rowsOf_sim hf hh hxr;have j1':V.rowsOf Hv x'=some xs:=by
     cases x'<;>first|exact j1|skip
     cases hxr with
     |str=>exact (hns _ rfl).elim
     |junk=>simp [rowsOf] at hf
     |sl0 _ _ _ ha=>simp at ha
     |all0 _ _ _ _ ha=>simp at ha
     |dsl0 _ _ _ _ _ ha=>simp at ha
     |lit0 _ _ ha=>simp at ha
   exact ⟨x',Hv,by rw [vside Hv x' y' xs [] j1' hys (by simpa [j2.1] using h0.1) (by simpa [j2.1] using h0.2) (by simp)];rfl,.same hh hxr⟩
 split at h
 · rename_i b c' a l hdy;split at h
   case isFalse=>simp at h
   rename_i hcs;simp only [Option.bind_eq_some_iff] at h;obtain ⟨⟨f,H0⟩,hX,h⟩:=h;obtain ⟨h0,h⟩:=ask_some h;simp only [Bool.and_eq_true,decide_eq_true_eq] at h0;obtain ⟨rfl,hb,hwb⟩:=deepY_spec hdy;have hX:=deepX_spec hX;refine ⟨_,_,h,by rcases hX with ⟨_,_,rfl⟩|⟨_,_,_,_,_,rfl⟩<;>rfl,fun m Hv x' y' hh hxr hyr=> ?_⟩;obtain ⟨k0,k1,kx⟩:=deep_block (s:=⟨[],[],H,0⟩) (sv:=⟨[],[],Hv⟩) hh hb;obtain ⟨_,b0,_⟩:=hh.blk b _ hb;have hlb:live H b:=⟨_,hb,rfl⟩;cases hyr with
   |all0 _ _ _ hl _=>rw [k0] at hl;simp at hl
   |all _ xb hxb=>
     obtain ⟨rowsb,tyb,i2,i3,i4⟩:=kx xb hxb;have i2':Hv.bl[xb]?=some (.cells rowsb 1 tyb):=i2;have hys:srcRows Hv (.sl xb 0 (m.len b 0))=some (rowsb.take (a::l).length):=by
       show V.rowsOf Hv (.sl xb 0 (m.len b 0))=_;simp only [V.rowsOf,i2'];rw [k0,if_pos (by omega)];simp
     have hyl:(rowsb.take (a::l).length).length=(a::l).length:=by rw [List.length_take];omega
     have hyr:∀ r,r<(a::l).length->∃ a',(rowsb.take (a::l).length)[r]?=some [a']/\RowIs m Hv (m.ι b (r+1)) c' ((a::l).getD r []) a':=fun r hr=>by
       obtain ⟨a',j1,j2⟩:=i4 r hr;exact ⟨a',by rw [List.getElem?_take,if_pos hr];exact j1,j2⟩
     have hwid:∀ r∈rowsb.take (a::l).length,r.length=width c:=fun r hr=>by
       obtain ⟨i,hi⟩:=List.getElem?_of_mem hr;have hil:=getElem?_lt hi;rw [hyl] at hil;obtain ⟨a',j1,_⟩:=hyr i hil;rw [hi] at j1;simp at j1;subst j1;rw [hcs];rfl
     have hz1:z'.length=1:=by rw [hzw,hcs];rfl
     have hFy:∀ {H0:UH} {Hv1:V.AH},(∀ {b'},live H0 b'->b'≠b/\live H b')->Hv1.wm=Hv.wm->∀ r x,m.ι b (r+1)=some x->Free m H0 Hv1 x:=fun {H0 Hv1} hnl hwm r x hx=>⟨⟨b,_,hx⟩,by rw [hwm];exact hh.wm b x hx hwb,fun b' s' hl' e'=>(hnl hl').1 (hh.inj b' b x (hnl hl').2 hlb e' hx)⟩
     have hyi:∀ r r' x,m.ι b (r+1)=some x->m.ι b (r'+1)=some x->r=r':=fun r r' x e e'=>by have:=(hh.inj' b b x hlb hlb e e').2;omega
     have hny:¬ (rowsb.take (a::l).length).length=0:=by rw [hyl];simp
     have onN:∀ {H0:UH},RH m H0 Hv->(∀ {b'},live H0 b'->b'≠b/\live H b')->(x'= .nils\/x'= .emp)->(a::l).length * nb<=70368744177664->(a::l).length<9223372036854775808->∃ a' Hv',V.append A Hv ts x' (.sl xb 0 (m.len b 0))=some (a',Hv')/\HGo m Hv (.all H0.bl.length) (push H0 (.deep c' ([]++a::l))) a' Hv':=fun {H0} hh0 hnl hxn q1 q2=>by
       have hxs:V.rowsOf Hv x'=some []:=by rcases hxn with rfl|rfl<;>rfl
       have hv:=vside Hv x' _ [] _ hxs hys (by rw [hyl];simpa using q1) (by rw [hyl];simpa using q2) hwid;rw [if_neg hny] at hv;have hj:=deep_join (f:=[]) (g:=a::l) (xs:=[]) (ys:=rowsb.take (a::l).length) (Fx:=fun _=>none) (Fy:=fun r=>m.ι b (r+1)) (ty:=some (e,1)) hh0 rfl hyl (fun r x hr=>by simp at hr) (hFy hnl rfl) (fun r r' x hr=>by simp at hr) hyi (fun r r' x hr=>by simp at hr) (fun r hr=>(b0 r).2 hr) (fun r hr=>by simp at hr) hyr;refine ⟨.sl Hv.bl.length 0 ([]++a::l).length,V.push Hv (.cells ([]++rowsb.take (a::l).length) 1 (some (e,1))),?_,hj⟩;rw [hv];rcases hxn with rfl|rfl<;>simp only [appRes,hyl,hz1,List.nil_append]
     rcases hX with ⟨hxn,rfl,rfl⟩|⟨b1,rfl,hb1,hne,hwb1,rfl⟩
     · have hxn':x'= .nils\/x'= .emp:=by rcases hxn with rfl|rfl<;>cases hxr<;>simp
       exact onN (hh.kill b) (fun h=>by rcases live_set h with ⟨_,h'⟩|h';simp [liveB] at h';exact h') hxn' (by simpa using h0.1) (by simpa using h0.2)
     · have hlb1:live H b1:=⟨_,hb1,rfl⟩;have hh0:=(hh.kill b1).kill b;have hnl:∀ {b'},live (setBl (setBl H b1 .dead) b .dead) b'->b'≠b/\b'≠b1/\live H b':=fun h=>by
         rcases live_set h with ⟨_,h'⟩|⟨h1,h'⟩
         · simp [liveB] at h'
         · rcases live_set h' with ⟨_,h'⟩|⟨h2,h'⟩
           · simp [liveB] at h'
           · exact ⟨h1,h2,h'⟩
       obtain ⟨q0,q1,qx⟩:=deep_block (s:=⟨[],[],H,0⟩) (sv:=⟨[],[],Hv⟩) hh hb1;cases hxr with
       |all0 _ _ _ hl ha=>
         have hf:f=[]:=by rw [q0] at hl;exact List.length_eq_zero_iff.1 hl
         subst hf;exact onN hh0 (fun h=>⟨(hnl h).1,(hnl h).2.2⟩) ha (by simpa using h0.1) (by simpa using h0.2)
       |all _ x1 hx1=>
         obtain ⟨rows1,ty1,p2,p3,p4⟩:=qx x1 hx1;have p2':Hv.bl[x1]?=some (.cells rows1 1 ty1):=p2;have hxs:V.rowsOf Hv (.sl x1 0 (m.len b1 0))=some (rows1.take f.length):=by
           simp only [V.rowsOf,p2'];rw [q0,if_pos (by omega)];simp
         have hxl:(rows1.take f.length).length=f.length:=by rw [List.length_take];omega
         have hv:=vside Hv (.sl x1 0 (m.len b1 0)) _ _ _ hxs hys (by rw [hxl,hyl];exact h0.1) (by rw [hxl,hyl];exact h0.2) hwid;rw [if_neg hny] at hv;have hwm1:=hh.wm b1 x1 hx1 hwb1;have hoth:=hh0.other (x:=x1) (fun b' s' hl' e'=>(hnl hl').2.1 (hh.inj b' b1 x1 (hnl hl').2.2 hlb1 e' hx1)) .dead;have hst:∀ {b' s':Nat} {x:Nat},m.ι b' (s'+1)=some x->(b'=b\/b'=b1)->(V.setBl Hv x1 .dead).bl[x]?=Hv.bl[x]?:=fun {b' s' x} e hbb=>by
           rw [vset_get,if_neg]
           rintro rfl
           rcases hbb with rfl|rfl
           · exact hne ((hh.inj b' b1 x1 hlb hlb1 e hx1).symm)
           · have:=(hh.inj' b' b' x1 hlb1 hlb1 e hx1).2;omega
         have hj:=deep_join (f:=f) (g:=a::l) (xs:=rows1.take f.length) (ys:=rowsb.take (a::l).length) (Fx:=fun r=>m.ι b1 (r+1)) (Fy:=fun r=>m.ι b (r+1)) (ty:=V.tyOn (V.tyOf Hv x1) e 0) hoth hxl hyl
           (fun r x _ hx=>⟨⟨b1,_,hx⟩,hh.wm b1 x hx hwb1,fun b' s' hl' e'=>(hnl hl').2.1 (hh.inj b' b1 x (hnl hl').2.2 hlb1 e' hx)⟩)
           (hFy (fun h=>⟨(hnl h).1,(hnl h).2.2⟩) rfl) (fun r r' x _ _ e e'=>by have:=(hh.inj' b1 b1 x hlb1 hlb1 e e').2;omega) hyi (fun r r' x _ e e'=>hne (hh.inj b1 b x hlb1 hlb e e')) (fun r hr=>(b0 r).2 hr)
           (fun r hr=>by
             obtain ⟨a',j1,j2⟩:=p4 r hr;exact ⟨a',by rw [List.getElem?_take,if_pos hr];exact j1,j2.keep (fun _ _ _ h=>h) fun x hx=>hst hx (.inr rfl)⟩)
           (fun r hr=>by
             obtain ⟨a',j1,j2⟩:=hyr r hr;exact ⟨a',j1,j2.keep (fun _ _ _ h=>h) fun x hx=>hst hx (.inl rfl)⟩)
         have hvl:(V.setBl Hv x1 .dead).bl.length=Hv.bl.length:=by simp [V.setBl]
         rw [hvl] at hj;obtain ⟨m',e1,e2,e3,e4⟩:=hj;have g1:Go' m.top m Hv m (V.setBl Hv x1 .dead):=⟨.refl (Nat.le_refl _),fun x' hx' hn'=>by rw [vset_get,if_neg (fun e=>hn' b1 0 (by rw [<- e];exact hx1))],fun b' s' x' hb'=> .inl ⟨b',s',hb'⟩,by simp [V.setBl],rfl⟩;refine ⟨_,_,?_,m',e1,e2,e3,g1.trans e4 (Nat.le_refl _)⟩;rw [hv];simp only [appRes];rw [if_pos ⟨hwm1,by simp only [V.szOf,p2'];rw [hz1]⟩,hxl,hyl,hz1,List.length_append]
 rename_i hdy;split at h
 · split at h
   · exact hnone (.inl rfl) (.inl rfl) h
   · exact hnone (.inl rfl) (.inr rfl) h
   · split at h
     · simp at h
     · rename_i hns;exact hkeep (.inl rfl) h fun s e=>hns s e
 · split at h
   · exact hnone (.inr rfl) (.inl rfl) h
   · exact hnone (.inr rfl) (.inr rfl) h
   · split at h
     · simp at h
     · rename_i hns;exact hkeep (.inr rfl) h fun s e=>hns s e
 · simp only [Option.bind_eq_some_iff] at h;obtain ⟨g,hg,h⟩:=h;split at h
   · exact hnil (.inl rfl) hg h
   · exact hnil (.inr rfl) hg h
   · rename_i b r0 n0;split at h
     · simp at h
     rename_i a g';split at h
     case isFalse=>simp at h
     rename_i hw;simp only [Option.bind_eq_some_iff] at h;obtain ⟨f,hf,h⟩:=h;have hf0:=hf;simp only [rowsOf] at hf;split at hf
     case h_2=>simp at hf
     rename_i c' l hb;split at hf
     case isFalse=>simp at hf
     rename_i hc;subst hc;simp at hf;subst hf;refine hgo (r0:=r0+1) (fun e=>by simp at e) hw hf0 hg (fun {m Hv x'} hh hx=> ?_) ⟨_,_,hb,rfl⟩ h;obtain ⟨k0,_⟩:=cells_block (s:=⟨[],[],H,0⟩) (sv:=⟨[],[],Hv⟩) hh hb;cases hx with
     |sl _ _ _ xi hxi hle=>exact ⟨by rw [cutL_eq];simp;omega,.inl ⟨xi,hxi,rfl⟩⟩
     |sl0 _ _ _ ha=>exact ⟨by rw [cutL_eq];simp,.inr ⟨ha,by rw [cutL_eq];simp⟩⟩
   · rename_i b n0 _ _;split at h
     case isFalse=>simp at h
     rename_i hw;simp only [Option.bind_eq_some_iff] at h;obtain ⟨f,hf,h⟩:=h;have hf0:=hf;simp only [rowsOf] at hf;split at hf
     case h_2=>simp at hf
     rename_i c' l hb;split at hf
     case isFalse=>simp at hf
     rename_i hc;subst hc;simp at hf;subst hf;refine hgo (fun _=>rfl) hw hf0 hg (fun {m Hv x'} hh hx=> ?_) ⟨_,_,hb,rfl⟩ h;obtain ⟨k0,_⟩:=cells_block (s:=⟨[],[],H,0⟩) (sv:=⟨[],[],Hv⟩) hh hb;cases hx with
     |sl _ _ _ xi hxi hle=>exact ⟨by rw [cutL_eq];simp;omega,.inl ⟨xi,hxi,rfl⟩⟩
     |sl0 _ _ _ ha=>exact ⟨by rw [cutL_eq];simp,.inr ⟨ha,by rw [cutL_eq];simp⟩⟩
   · rename_i b _ _;split at h
     case isFalse=>simp at h
     rename_i hw;simp only [Option.bind_eq_some_iff] at h;obtain ⟨f,hf,h⟩:=h;have hf0:=hf;simp only [rowsOf] at hf;split at hf
     case h_2=>simp at hf
     rename_i c' l hb;split at hf
     case isFalse=>simp at hf
     rename_i hc;subst hc;simp at hf;subst hf;refine hgo (fun _=>rfl) hw hf0 hg (fun {m Hv x'} hh hx=> ?_) ⟨_,_,hb,rfl⟩ h;obtain ⟨k0,_⟩:=cells_block (s:=⟨[],[],H,0⟩) (sv:=⟨[],[],Hv⟩) hh hb;cases hx with
     |all _ xi hxi=>exact ⟨rfl,.inl ⟨xi,hxi,by rw [k0]⟩⟩
     |all0 _ _ _ hl ha=>exact ⟨rfl,.inr ⟨ha,List.length_eq_zero_iff.1 (by omega)⟩⟩
   · simp at h
end
end Go.U
