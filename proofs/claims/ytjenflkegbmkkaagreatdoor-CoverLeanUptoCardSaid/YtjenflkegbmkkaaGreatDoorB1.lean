/- A second evaluator, over rows of Lean values, and that it is right over the first. -/
import Derived.Test.YtjenflkegbmkkaaGreatDoorA1
import Derived.Test.YtjenflkegbmkkaaGreatDoorA4
set_option linter.unusedVariables false
set_option linter.unusedSimpArgs false
set_option linter.unusedSectionVars false
open Bool renaming and_eq_true→Na
open List renaming replicate→Ba,range→ua,mem_append→Kk,mem_of_getElem?→Db,all_eq_true→ic,getElem?_map→Wb,getElem?_eq_none→Ab,getElem?_eq_getElem→Aa,getElem?_drop→Ec,getElem?_take→Cb,getElem?_append_left→La,getElem?_append_right→Qa,getElem?_set→Ob,mem_cons→Vb,getElem?_of_mem→je,append_assoc→td,getD_eq_getElem?_getD→Ka,length_set→Td,getElem?_replicate→Wi,length→da,length_replicate→Jf,length_map→Oc,length_eq_zero_iff→Ja,length_take→Nb,length_append→qd,append_nil→zi,length_nil→Ng
open Nat renaming le_refl→va,le_trans→Gb,lt_of_lt_of_le→yb,lt_or_ge→Ub,zero_add→Qe,le_of_eq→Ph,add_zero→ve
open Option renaming map_eq_some_iff→ia,bind_eq_some_iff→aa,bind_some→ga,map_some→Mc
open Option.some renaming injEq→zc
namespace Go.U
open Go
inductive CT where
 |bool
 |int (k:IntKind)
 |str
 |slice (c:CT)
 |pair (a b:CT)
 deriving DecidableEq,Inhabited
def Fb:CT->Type
 | .bool=>Bool
 | .int _=>Int
 | .str=>ByteArray
 | .slice c=>List (Fb c)
 | .pair a b=>Fb a×Fb b
def width:CT->Nat
 | .pair a b=>width a+width b
 |_=>1
def MU:(c:CT)->Fb c
 | .bool=>false
 | .int _=>(0:Int)
 | .str=>ByteArray.empty
 | .slice _=>[]
 | .pair a b=>(MU a,MU b)
inductive KT where
 |int (k:IntKind)
 |str
 deriving DecidableEq,Inhabited
def od:KT->Type
 | .int _=>Int
 | .str=>ByteArray
def UI:(k:KT)->od k->od k->Bool
 | .int _=>fun(a b:Int)=>decide (a=b)
 | .str=>fun(a b:ByteArray)=>a==b
inductive UV where
 |Sb
 |bool (b:Bool)
 |int (k:IntKind) (n:Int)
 |str (s:ByteArray)
 |Me
 |ptr (b c:Nat)
 |Um (b r c:Nat)
 |Bd (row:List UV)
 |Ya
 |Pd
 |sl (b r n:Nat)
 |all (b:Nat)
 |Qp (b r:Nat)
 |cq (b r j c:Nat)
 |lit (c:CT) (l:List (Fb c))
 |Ef
 |mp (b:Nat)
 |af
 |fn (f:FuncId) (jh:List UV)
 |yl (b:Nat)
 |Sg
 |agg (cells:List UV)
 |Qc (vs:List UV)
 deriving Inhabited
inductive UB where
 |dead
 |Za (row:List UV)
 |cells (c:CT) (l:List (Fb c))
 |deep (c:CT) (l:List (List (Fb c)))
 |uk (k:KT) (es:List (od k×UV))
 |vh (k:KT) (g:Bool) (c:CT) (l:List (od k×Fb c))
 |loop (id:Nat) (env:List (Nat×UV)) (st:LoopState) (pe:V.Ex)
 |Mm (q:UV)
 |Rp (s:ByteArray)
 deriving Inhabited
structure RFn where
 n:Nat
 ps:List Nat
 assign:Code
 body:Code
class ZC where
 rf:Nat->RFn
 bT:TypeId
 uT:TypeId
structure UH where
 bl:List UB
 wm:Nat
inductive US where
 |v (a:UV)
 |loc (i c:Nat)
structure St where
 e:List (Nat×US)
 F:List (List UV)
 H:UH
 base:Nat
def fN{α:Type}(n:Nat)(k:Nat->α):α:=match n with|0=>k 0|m+1=>k (m+1)
def fL{α β:Type}(l:List β)(k:List β->α):α:=match l with|[]=>k []|x::xs=>fL xs fun xs=>k (x::xs)
def fV{α:Type}(v:UV)(k:UV->α):α:=
 match v with
 | .Sb=>k .Sb
 | .bool b=>k (.bool b)
 | .int t n=>k (.int t n)
 | .str s=>k (.str s)
 | .Me=>k .Me
 | .ptr b c=>fN b fun b=>fN c fun c=>k (.ptr b c)
 | .Um b r c=>fN b fun b=>fN c fun c=>k (.Um b r c)
 | .Bd row=>fL row fun row=>k (.Bd row)
 | .Ya=>k .Ya
 | .Pd=>k .Pd
 | .sl b r n=>fN b fun b=>k (.sl b r n)
 | .all b=>fN b fun b=>k (.all b)
 | .Qp b r=>fN b fun b=>k (.Qp b r)
 | .cq b r j c=>fN b fun b=>fN c fun c=>k (.cq b r j c)
 | .lit c l=>k (.lit c l)
 | .Ef=>k .Ef
 | .mp b=>fN b fun b=>k (.mp b)
 | .af=>k .af
 | .fn f cs=>fL cs fun cs=>k (.fn f cs)
 | .yl b=>fN b fun b=>k (.yl b)
 | .Sg=>k .Sg
 | .agg cs=>fL cs fun cs=>k (.agg cs)
 | .Qc vs=>fL vs fun vs=>k (.Qc vs)
def fU{α:Type}(v:US)(k:US->α):α:=
 match v with
 | .v a=>fV a fun a=>k (.v a)
 | .loc i c=>fN i fun i=>fN c fun c=>k (.loc i c)
def fSt{α:Type}(s:St)(k:St->α):α:=
 match s with
 |⟨e,F,⟨bl,wm⟩,base⟩=>fL F fun F=>fL bl fun bl=>fN wm fun wm=>fN base fun base=>(match e with|[]=>k ⟨[],F,⟨bl,wm⟩,base⟩|x::l=>k ⟨x::l,F,⟨bl,wm⟩,base⟩)
theorem vX{α:Type}(n:Nat)(k:Nat->α):fN n k=k n:=by cases n<;>rfl
theorem xF{α β:Type}:∀(l:List β)(k:List β->α),fL l k=k l
 |[],_=>rfl
 |x::xs,k=>by simp only[fL,xF xs]
theorem vah{α:Type}(v:UV)(k:UV->α):fV v k=k v:=by cases v<;>simp only[fV,vX,xF]
theorem Q9{α:Type}(v:US)(k:US->α):fU v k=k v:=by cases v<;>simp only[fU,vah,vX]
theorem uX{α:Type}(s:St)(k:St->α):fSt s k=k s:=by
 obtain⟨e,F,⟨bl,wm⟩,base⟩:=s;simp only[fSt,vX,xF];cases e<;>rfl
def enc:(c:CT)->Fb c->List UV
 | .bool,b=>[.bool b]
 | .int k,n=>[.int k n]
 | .str,s=>[.str s]
 | .slice c,l=>[.lit c l]
 | .pair a b,(x,y)=>enc a x++enc b y
def dec:(c:CT)->List UV->Option (Fb c×List UV)
 | .bool,.bool b::r=>some (b,r)
 | .int k,.int k' n::r=>if k'=k then some (n,r)else none
 | .str,.str s::r=>some (s,r)
 | .slice c,.lit c' l::r=>if h:c'=c then some (h ▸ l,r)else none
 | .slice _,.Ya::r=>some ([],r)
 | .slice _,.Pd::r=>some ([],r)
 | .pair a b,cs=>(dec a cs).bind fun(x,r)=>(dec b r).bind fun(y,r')=>some ((x,y),r')
 |_,_=>none
def xI(c:CT)(cs:List UV):Option (Fb c):=
 match dec c cs with
 |some (x,[])=>some x
 |_=>none
def o3(c:CT):List (List UV)->Option (List (Fb c))
 |[]=>some []
 |r::rs=>(xI c r).bind fun x=>(o3 c rs).bind fun l=>some (x::l)
def vw(c:CT)(l:List (Fb c)):Nat->List UV:=fun i=>enc c (l.getD i (MU c))
def mO(s:ByteArray):List Int:=s.data.toList.map fun b=>(b.toNat:Int)
def xai(l:List Int):ByteArray:=⟨(l.map fun n=>UInt8.ofNat n.toNat).toArray⟩
def Fk{α:Type}(r n:Nat)(l:List α):List α:=
 match r with
 |0=>l.take n
 |r+1=>(l.drop (r+1)).take n
def Zz{α:Type}(r m:Nat)(g l:List α):List α:=l.take r++(g.take m++l.drop (r+m))
def valOf(g:Bool)(c:CT)(x:Fb c):UV:=
 match g,enc c x with
 |true,cs=> .agg cs
 |false,[v]=>v
 |_,_=> .Sb
def keyOf?(k:KT):UV->Option (od k):=
 match k with
 | .int k=>fun| .int k' n=>if k'=k then some n else none|_=>none
 | .str=>fun| .str s=>some s|_=>none
def QB{k:KT}{α:Type}(i:od k)(l:List (od k×α)):Bool:=l.any fun p=>UI k i p.1
def Eu{k:KT}{α:Type}(i:od k)(d:α):List (od k×α)->α
 |[]=>d
 |(j,x)::l=>cond (UI k i j) x (Eu i d l)
def Ix{k:KT}{α:Type}(i:od k)(x:α):List (od k×α)->List (od k×α)
 |[]=>[(i,x)]
 |(j,y)::l=>cond (UI k i j) ((i,x)::l) ((j,y)::Ix i x l)
def Yz{k:KT}{α:Type}(i:od k):List (od k×α)->List (od k×α)
 |[]=>[]
 |(j,y)::l=>cond (UI k i j) l ((j,y)::Yz i l)
def YU(r k:Nat):Nat:=match r with|0=>k|_=>r+k
def closed:Nat->UV->Bool
 |0,_=>false
 |_+1,.ptr .. |_+1,.Um .. |_+1,.sl .. |_+1,.all _|_+1,.Qp .. |_+1,.cq .. |_+1,.mp _|_+1,.yl _|_+1,.Sb|_+1,.agg _|_+1,.Qc _=>false
 |d+1,.fn _ cs=>cs.all (closed d)
 |_+1,_=>true
def Rb:Nat->UV->Bool
 |0,_=>false
 |d+1,.agg cs=>cs.all (Rb d)
 |d+1,.Qc cs=>cs.all (Rb d)
 |_+1,x=>closed 8 x
def get:List (Nat×US)->Nat->US
 |[],_=> .v .Sb
 |(j,x)::e,i=>if i=j then x else get e i
def UV.cells?:UV->Option (List UV)
 | .agg cs=>some cs
 | .Sb| .Qc _=>none
 |x=>some [x]
def zj:Value->Option UV
 | .bool b=>some (.bool b)
 | .int k n=>some (.int k n)
 | .string s=>some (.str s)
 | .pointer none=>some .Me
 | .slice none 0 0=>some .Ya
 | .map none=>some .Ef
 | .nilFunc=>some .af
 | .nilIface=>some .Sg
 |_=>none
def Pc:List Value->Option (List UV)
 |[]=>some []
 |v::vs=>(zj v).bind fun x=>(Pc vs).bind fun xs=>some (x::xs)
def ask{X:Type}(b:Bool)(x:Option X):Option X:=cond b x none
section
variable (A:V.Eh)(Ra:Nat->Option (List UV))
def zero(t:TypeId):Option (List UV):=
 match(A.P.info? t).map (·.zero)with
 |some (some v)=>Pc v.cells.toList
 |_=>none
def zeroV(t:TypeId):Option UV:=
 match(A.P.info? t).map (·.zero)with
 |some (some (Value.agg cs))=>(Pc cs.toList).map UV.agg
 |some (some v)=>zj v
 |_=>none
def operand(e:List (Nat×US)):Operand->Option US
 | .tmp t=>some (get e t)
 | .const v=>(zj v).map .v
 | .global g=>(Ra g).map fun row=> .v (.Bd row)
 | .func f=>some (.v (.fn f []))
def val(e:List (Nat×US))(x:Operand):Option UV:=
 match operand Ra e x with
 |some (.v .Sb)=>none
 |some (.v a)=>some a
 |_=>none
def dh(e:List (Nat×US)):List Operand->Option (List UV)
 |[]=>some []
 |x::xs=>(val Ra e x).bind fun a=>(dh e xs).bind fun l=>some (a::l)
def yf(row:List UV)(c:Nat)(new:List UV):Option (List UV):=
 if c+new.length<=row.length then some (row.take c++(new++row.drop (c+new.length)))else none
def part(t:TypeId)(row:List UV)(c:Nat):Option UV:=
 (V.isAgg A t).bind fun
  |true=>(V.size A t).bind fun n=>if c+n<=row.length then some (.agg ((row.drop c).take n))else none
  |false=>row[c]?
def Sa(H:UH)(b:Nat)(x:UB):UH:={ H with bl:=H.bl.set b x }
def push(H:UH)(x:UB):UH:={ H with bl:=H.bl++[x] }
def load(s:St)(t:TypeId):US->Option UV
 | .loc i c=>s.F[i]?.bind fun row=>part A t row c
 | .v (.ptr b c)=>match s.H.bl[b]? with|some (.Za row)=>part A t row c|_=>none
 | .v (.Um b r c)=>match s.H.bl[b]? with|some (.cells ct l)=>part A t (vw ct l r) c|some (.deep _ _)=>part A t [.Qp b r] c|_=>none
 | .v (.cq b r j c)=>match s.H.bl[b]? with|some (.deep ct l)=>part A t (vw ct (l.getD r []) j) c|_=>none
 | .v (.Bd row)=>part A t row 0
 |_=>none
def store(s:St)(t:TypeId)(p:US)(x:UV):Option St:=
 x.cells?.bind fun cs=>(V.size A t).bind fun n=>
  if cs.length=n then
   match p with
   | .loc i c=>s.F[i]?.bind fun row=>(yf row c cs).bind fun Jb=>fL Jb fun Jb=>some { s with F:=s.F.set i Jb }
   | .v (.ptr b c)=>
    match s.H.bl[b]? with
    |some (.Za row)=>if s.H.wm<=b then(yf row c cs).bind fun Jb=>fL Jb fun Jb=>some { s with H:=Sa s.H b (.Za Jb) }else none
    |_=>none
   | .v (.Um b r c)=>
    match s.H.bl[b]? with
    |some (.cells ct l)=>if s.H.wm<=b then(yf (vw ct l r) c cs).bind fun Jb=>(xI ct Jb).bind fun x=>some { s with H:=Sa s.H b (.cells ct (l.set r x)) }else none
    |_=>none
   | .v (.cq b r j c)=>
    match s.H.bl[b]? with
    |some (.deep ct l)=>if s.H.wm<=b then(yf (vw ct (l.getD r []) j) c cs).bind fun Jb=>(xI ct Jb).bind fun x=>some { s with H:=Sa s.H b (.deep ct (l.set r ((l.getD r []).set j x))) }else none
    |_=>none
   |_=>none
  else none
def Lg(n:Nat):US->Option US
 | .loc i c=>some (.loc i (c+n))
 | .v (.ptr b c)=>some (.v (.ptr b (c+n)))
 | .v (.Um b r c)=>some (.v (.Um b r (c+n)))
 | .v (.cq b r j c)=>some (.v (.cq b r j (c+n)))
 | .v (.Bd row)=>some (.v (.Bd (row.drop n)))
 |_=>none
variable {X:Type}
def cases(i:Int)(K:Nat->Option X):Nat->Nat->Option X
 |0,_=>none
 |m+1,j=>cond (decide (i=(j:Int))) (K j) (cases i K m (j+1))
def indexAddr(H:UH)(t:TypeId)(x:US)(i:Int)(K:US->Option X):Option X:=
 match A.P.underlying t with
 |some (.array n e)=>(V.size A e).bind fun sz=>cases i (fun j=>(Lg (j * sz) x).bind K) n 0
 |some (.slice e)=>
  match x with
  | .v (.sl b r n)=>
   match H.bl[b]? with
   |some (.cells c _)=>if V.size A e=some (width c)then ask (V.ja i n) (K (.v (.Um b (YU r i.toNat) 0)))else none
   |some (.deep _ _)=>if V.size A e=some 1 then ask (V.ja i n) (K (.v (.Um b (YU r i.toNat) 0)))else none
   |_=>none
  | .v (.all b)=>
   match H.bl[b]? with
   |some (.cells c l)=>if V.size A e=some (width c)then ask (V.ja i l.length) (K (.v (.Um b i.toNat 0)))else none
   |some (.deep _ l)=>if V.size A e=some 1 then ask (V.ja i l.length) (K (.v (.Um b i.toNat 0)))else none
   |_=>none
  | .v (.Qp b r)=>
   match H.bl[b]? with
   |some (.deep c l)=>if V.size A e=some (width c)then ask (V.ja i (l.getD r []).length) (K (.v (.cq b r i.toNat 0)))else none
   |_=>none
  | .v (.lit c l)=>if V.size A e=some (width c)then ask (V.ja i l.length) (K (.v (.Bd (vw c l i.toNat))))else none
  |_=>none
 |_=>none
def index(t:TypeId)(x:UV)(i:Int)(K:UV->Option X):Option X:=
 match A.P.underlying t,x with
 |some (.array n e),.agg cs=>(V.size A e).bind fun sz=>cases i (fun j=>(part A e cs (j * sz)).bind K) n 0
 |some .string,.str s=>ask (V.ja i s.size) (K (.int .u8 (s[i.toNat]!.toNat:Int)))
 |_,_=>none
def ig(place:Nat->Option (Nat×Nat))(row:List UV):List (Nat×UV)->Option (List UV)
 |[]=>some row
 |(i,x)::rest=>
  (place i).bind fun(off,n)=>x.cells?.bind fun cs=>
   if cs.length=n then(yf row off cs).bind fun Jb=>ig place Jb rest else none
def parts(e:List (Nat×US)):List (Nat×Operand)->Option (List (Nat×UV))
 |[]=>some []
 |(i,x)::xs=>(val Ra e x).bind fun a=>(parts e xs).bind fun l=>some ((i,a)::l)
def build(t:TypeId)(ps:List (Nat×UV)):Option UV:=
 (zero A t).bind fun z=>
  match A.P.underlying t with
  |some (.struct fs)=>if fs.toList.all fun f=>(V.size A f.type).isSome then(ig (fun i=>fs[i]?.bind fun f=>(V.size A f.type).map fun n=>(f.offset,n)) z ps).map .agg else none
  |some (.array _ e)=>(V.size A e).bind fun n=>(ig (fun i=>some (i * n,n)) z ps).map .agg
  |_=>none
def x3:Nat->TypeId->Option CT
  |0,_=>none
  |d+1,t=>
   match A.P.underlying t with
   |some .bool=>some .bool
   |some (.int k)=>some (.int k)
   |some .string=>some .str
   |some (.slice e)=>(x3 d e).map .slice
   |some (.struct fs)=>LC (fs.toList.map fun f=>x3 d f.type)
   |some (.array n e)=>LC (Ba n (x3 d e))
   |_=>none
 where
  LC:List (Option CT)->Option CT
   |[]=>none
   |[c]=>c
   |c::cs=>c.bind fun c=>(LC cs).map fun c'=> .pair c c'
def elemOf(t:TypeId):Option ((c:CT)×Fb c):=
 (V.elem? A t).bind fun e=>(zero A e).bind fun z=>(x3 A 16 e).bind fun c=>(xI c z).bind fun x=>
  if 0<z.length/\V.size A e=some z.length/\width c=z.length then some ⟨c,x⟩else none
def Se(rows:List (List UV)):List (Nat×UV)->Option (List (List UV))
 |[]=>some rows
 |(i,x)::rest=>x.cells?.bind fun cs=>rows[i]?.bind fun row=>if cs.length=row.length then Se (rows.set i cs) rest else none
def Ch(c:CT):Nat->List (Nat×UV)->UH->Option (List (List (Fb c))×UH)
 |_,[],H=>some ([],H)
 |i,(j,x)::ps,H=>if j=i then
  match x with
  | .Ya| .Pd=>(Ch c (i+1) ps H).bind fun(l,H)=>some ([]::l,H)
  | .all b=>
   match H.bl[b]? with
   |some (.cells c' l)=>if h:c'=c/\H.wm<=b then(Ch c (i+1) ps (Sa H b .dead)).bind fun(l',H)=>some ((h.1 ▸ l)::l',H)else none
   |_=>none
  |_=>none
  else none
def isAll:UV->Bool
 | .all _=>true
 |_=>false
def eO(H:UH)(t:TypeId)(len:Nat)(ps:List (Nat×UV)):Option (UV×UH):=
 match elemOf A t with
 |some ⟨.slice c,_⟩=>if ps.length=len/\ps.any (fun p=>isAll p.2)=true then(Ch c 0 ps H).bind fun(l,H)=>some (.all H.bl.length,push H (.deep c l))else none
 |_=>none
def buildSlice(H:UH)(t:TypeId)(len:Nat)(ps:List (Nat×UV)):Option (UV×UH):=
 (V.elem? A t).bind fun e=>(zero A e).bind fun z=>(elemOf A t).bind fun⟨c,_⟩=>
  if len * z.length<=16777216 then
   if len=0/\ps.length=0 then some (.Pd,H)else
    match eO A H t len ps with
    |some r=>some r
    |none=>(Se (Ba len z) ps).bind fun rows=>(o3 c rows).bind fun l=>some (.all H.bl.length,push H (.cells c l))
  else none
def makeSlice(H:UH)(t:TypeId)(len cap:UV)(K:UV->UH->Option X):Option X:=
 match len,cap with
 | .int _ l,.int _ c=>
  (V.elem? A t).bind fun e=>(elemOf A t).bind fun⟨ct,x⟩=>(V.bytes A e).bind fun n=>
   ask (decide (0<=l)&&decide (l<=c)&&decide (n * c<=70368744177664)&&decide (c<9223372036854775808))
    (K (.all H.bl.length) (push H (.cells ct (Ba l.toNat x))))
 |_,_=>none
def rowsOf(H:UH)(c:CT):UV->Option (List (Fb c))
 | .lit c' l=>if h:c'=c then some (h ▸ l)else none
 | .all b=>match H.bl[b]? with|some (.cells c' l)=>if h:c'=c then some (h ▸ l)else none|_=>none
 | .sl b r n=>match H.bl[b]? with|some (.cells c' l)=>if h:c'=c then some (Fk r n (h ▸ l))else none|_=>none
 | .Qp b r=>match H.bl[b]? with|some (.deep c' l)=>if h:c'=c then some (h ▸ l.getD r [])else none|_=>none
 | .str s=>if h:CT.int .u8=c then some (h ▸ (mO s:List (Fb (.int .u8))))else none
 |_=>none
def V2(H:UH):UV->Option (Nat×(c:CT)×List (Fb c)×List (List (Fb c)))
 | .all b=>match H.bl[b]? with|some (.deep c (a::l))=>if H.wm<=b then some (b,⟨c,a,l⟩)else none|_=>none
 |_=>none
def X2(H:UH)(c:CT)(b:Nat):UV->Option (List (List (Fb c))×UH)
 | .Ya| .Pd=>some ([],Sa H b .dead)
 | .all b1=>match H.bl[b1]? with|some (.deep c' l)=>if h:c'=c/\b1≠b/\H.wm<=b1 then some (h.1 ▸ l,Sa (Sa H b1 .dead) b .dead)else none|_=>none
 |_=>none
def append(H:UH)(argTypes:Array TypeId)(x y:UV)(K:UV->UH->Option X):Option X:=
 argTypes[0]?.bind fun t=>(V.elem? A t).bind fun e=>(elemOf A t).bind fun⟨c,_⟩=>(V.bytes A e).bind fun n=>
  (match argTypes[1]? with
   |some u=>(match A.P.underlying u with|some (.int _)=>none|some _=>some ()|none=>none)
   |none=>some ()).bind fun _=>
   match V2 H y with
   |some (b,⟨c',a,l⟩)=>if c=CT.slice c' then(X2 H c' b x).bind fun(f,H0)=>ask (decide ((f.length+(a::l).length) * n<=70368744177664)&&decide (f.length+(a::l).length<9223372036854775808)) (K (.all H0.bl.length) (push H0 (.deep c' (f++a::l))))else none
   |none=>
   match y with
   | .Ya| .Pd=>match x with| .Ya| .Pd=>K x H|x=>match x with| .str _=>none|x=>(rowsOf H c x).bind fun f=>ask (decide (f.length * n<=70368744177664)&&decide (f.length<9223372036854775808)) (K x H)
   |y=>
    (rowsOf H c y).bind fun g=>
     match x with
     | .Ya| .Pd=>ask (decide (g.length * n<=70368744177664)&&decide (g.length<9223372036854775808)) (K (.all H.bl.length) (push H (.cells c g)))
     | .sl b (r+1) m=>
      match g with
      |[]=>none
      |a::g'=>
      if H.wm<=b then
       (rowsOf H c (.sl b (r+1) m)).bind fun f=>
        ask (decide ((m+(a::g').length) * n<=70368744177664)&&decide (m+(a::g').length<9223372036854775808)) (K (.all H.bl.length) (push (Sa H b .dead) (.cells c (f++(a::g')))))
      else none
     | .sl b 0 m=>
      if H.wm<=b then
       (rowsOf H c (.sl b 0 m)).bind fun f=>
        ask (decide ((m+g.length) * n<=70368744177664)&&decide (m+g.length<9223372036854775808)) (K (.all H.bl.length) (push (Sa H b .dead) (.cells c (f++g))))
      else none
     | .all b=>
      if H.wm<=b then
       (rowsOf H c (.all b)).bind fun f=>
        ask (decide ((f.length+g.length) * n<=70368744177664)&&decide (f.length+g.length<9223372036854775808)) (K (.all H.bl.length) (push (Sa H b .dead) (.cells c (f++g))))
      else none
     |_=>none
def slice(H:UH)(t:TypeId)(x:UV)(lo hi:Option Int)(K:UV->Option X):Option X:=
 match A.P.underlying t,x with
 |some .string,.str s=>ask (decide (0<=lo.getD 0)&&decide (lo.getD 0<=hi.getD s.size)&&decide (hi.getD s.size<=s.size)) (K (.str (s.extract (lo.getD 0).toNat (hi.getD s.size).toNat)))
 |some (.slice e),.lit c l=>
  if V.size A e=some (width c)then
   match hi with
   |none=>ask (decide (0<=lo.getD 0)&&decide (lo.getD 0<=l.length)) (K (.lit c (l.drop (lo.getD 0).toNat)))
   |some h=>ask (decide (0<=lo.getD 0)&&decide (lo.getD 0<=h)&&decide (h<=l.length)) (K (.lit c ((l.take h.toNat).drop (lo.getD 0).toNat)))
  else none
 |some (.slice e),.sl b r n=>
  match H.bl[b]? with
  |some (.cells c _)=>if V.size A e=some (width c)then ask (decide (0<=lo.getD 0)&&decide (lo.getD 0<=hi.getD n)&&decide (hi.getD n<=n)) (K (.sl b (YU r (lo.getD 0).toNat) ((hi.getD n).toNat-(lo.getD 0).toNat)))else none
  |some (.deep _ _)=>if V.size A e=some 1 then ask (decide (0<=lo.getD 0)&&decide (lo.getD 0<=hi.getD n)&&decide (hi.getD n<=n)) (K (.sl b (YU r (lo.getD 0).toNat) ((hi.getD n).toNat-(lo.getD 0).toNat)))else none
  |_=>none
 |some (.slice e),.all b=>
  match H.bl[b]? with
  |some (.cells c l)=>if V.size A e=some (width c)then ask (decide (0<=lo.getD 0)&&decide (lo.getD 0<=hi.getD l.length)&&decide (hi.getD l.length<=l.length)) (K (.sl b (lo.getD 0).toNat ((hi.getD l.length).toNat-(lo.getD 0).toNat)))else none
  |some (.deep _ l)=>if V.size A e=some 1 then ask (decide (0<=lo.getD 0)&&decide (lo.getD 0<=hi.getD l.length)&&decide (hi.getD l.length<=l.length)) (K (.sl b (lo.getD 0).toNat ((hi.getD l.length).toNat-(lo.getD 0).toNat)))else none
  |_=>none
 |_,_=>none
def Di(H:UH)(t:TypeId)(x:UV):Option (UV×UH):=
 match A.P.underlying t with
 |some (.slice e)=>if(V.size A e).isSome then
   match x with
   | .Ya=>some (.Ya,H)
   | .Pd=>some (.Pd,H)
   | .lit c _=>some (.all H.bl.length,push H (.cells c []))
   | .sl b _ _=>match H.bl[b]? with|some (.cells c _)=>some (.all H.bl.length,push H (.cells c []))|_=>none
   | .all b=>match H.bl[b]? with|some (.cells c _)=>some (.all H.bl.length,push H (.cells c []))|_=>none
   |_=>none
  else none
 |_=>none
def xW(x:UV):Bool:=match x with| .int _ n=>decide (n=0)|_=>false
def Cq(op:BinOp)(k:IntKind)(x y:Int)(K:UV->Option X):Option X:=
 match op with
 | .add=>K (.int k (k.wrap (x+y)))
 | .sub=>K (.int k (k.wrap (x-y)))
 | .mul=>K (.int k (k.wrap (x * y)))
 | .quo=>cond (decide (y=0)) none (K (.int k (k.wrap (x.tdiv y))))
 | .rem=>cond (decide (y=0)) none (K (.int k (x.tmod y)))
 | .and| .or| .xor| .andNot=>(V.bits op k x y).bind fun n=>K (.int k n)
 | .eql=>K (.bool (decide (x=y)))
 | .neq=>K (.bool (!decide (x=y)))
 | .lss=>K (.bool (decide (x<y)))
 | .leq=>K (.bool (decide (x<=y)))
 | .gtr=>K (.bool (decide (y<x)))
 | .geq=>K (.bool (decide (y<=x)))
 |_=>none
def eqFields(eq:TypeId->UV->UV->Option Bool)(xs ys:List UV):List Field->Option Bool
 |[]=>some true
 |fd::fs=>
  if fd.name= "_" then eqFields eq xs ys fs
  else(part A fd.type xs fd.offset).bind fun x=>(part A fd.type ys fd.offset).bind fun y=>(eq fd.type x y).bind fun b=>(eqFields eq xs ys fs).map fun c=>b&&c
def Jg(eq:UV->UV->Option Bool)(e:TypeId)(sz:Nat)(xs ys:List UV):Nat->Nat->Option Bool
 |0,_=>some true
 |n+1,i=>(part A e xs (i * sz)).bind fun x=>(part A e ys (i * sz)).bind fun y=>(eq x y).bind fun b=>(Jg eq e sz xs ys n (i+1)).map fun c=>b&&c
def Mw:Nat->TypeId->UV->UV->Option Bool
 |0,_,_,_=>none
 |d+1,t,x,y=>
  match A.P.underlying t,x,y with
  |some .bool,.bool a,.bool b=>some (a==b)
  |some (.int _),.int k a,.int k' b=>if k=k' then some (decide (a=b))else none
  |some .string,.str a,.str b=>some (a.toList==b.toList)
  |some (.struct fs),.agg xs,.agg ys=>if A.P.stoodInHeld t then none else eqFields A (Mw d) xs ys fs.toList
  |some (.array n e),.agg xs,.agg ys=>(V.size A e).bind fun sz=>Jg A (Mw d e) e sz xs ys n 0
  |_,_,_=>none
def Fg(t:TypeId)(x y:UV):Option Bool:=
 match A.P.underlying t,x,y with
 |some .bool,.bool a,.bool b=>some (a==b)
 |some (.struct _),.agg xs,.agg ys=>if A.P.eqGuardType A.P.depth t then none else Mw A 1000 t (.agg xs) (.agg ys)
 |some (.array _ _),.agg xs,.agg ys=>if A.P.eqGuardType A.P.depth t then none else Mw A 1000 t (.agg xs) (.agg ys)
 |some (.slice _),.Ya,.Ya=>some true
 |some (.slice _),.Ya,.Pd|some (.slice _),.Pd,.Ya=>some false
 |some (.pointer _),.Me,.Me=>some true
 |some (.pointer _),.Me,.ptr .. |some (.pointer _),.ptr ..,.Me|some (.pointer _),.Me,.Um .. |some (.pointer _),.Um ..,.Me|some (.pointer _),.Me,.Bd _|some (.pointer _),.Bd _,.Me=>some false
 |some (.map _ _),.Ef,.Ef=>some true
 |some (.map _ _),.Ef,.mp _|some (.map _ _),.mp _,.Ef=>some false
 |some (.func _ _ _),.af,.af=>some true
 |some (.func _ _ _),.af,.fn .. |some (.func _ _ _),.fn ..,.af=>some false
 |_,_,_=>none
def Ut(op:BinOp)(x y:ByteArray)(K:UV->Option X):Option X:=
 match op with
 | .add=>ask (decide (x.size+y.size<=9223372036854775807)) (K (.str (x++y)))
 | .eql=>K (.bool (x.toList==y.toList))
 | .neq=>K (.bool (!(x.toList==y.toList)))
 | .lss=>K (.bool (Op.bytesLess x.toList y.toList))
 | .leq=>K (.bool (Op.bytesLess x.toList y.toList||x.toList==y.toList))
 | .gtr=>K (.bool !(Op.bytesLess x.toList y.toList||x.toList==y.toList))
 | .geq=>K (.bool !(Op.bytesLess x.toList y.toList))
 |_=>none
def binop(op:BinOp)(t:TypeId)(x y:UV)(K:UV->Option X):Option X:=
 match op,x,y with
 | .shl,.int k a,.int _ b=>ask (decide (0<=b)) (K (.int k (k.wrap (a * 2^min b.toNat k.bits))))
 | .shr,.int k a,.int _ b=>ask (decide (0<=b)) (K (.int k (a.fdiv (2^min b.toNat k.bits))))
 |op,.int k a,.int k' b=>if k=k' then Cq op k a b K else none
 |op,.str a,.str b=>Ut op a b K
 | .eql,x,y=>(Fg A t x y).bind fun b=>K (.bool b)
 | .neq,x,y=>(Fg A t x y).bind fun b=>K (.bool !b)
 |_,_,_=>none
def unop(op:UnOp)(x:UV):Option UV:=
 match op,x with
 | .neg,.int k n=>some (.int k (k.wrap (0-n)))
 | .xor,.int k n=>(V.bits .xor k (if k.signed then -1 else k.max) n).map (.int k)
 | .not,.bool b=>some (.bool !b)
 |_,_=>none
def convert(H:UH)(src dst:TypeId)(x:UV)(K:UV->UH->Option X):Option X:=
 match A.P.underlying src,A.P.underlying dst,x with
 |some _,some (.int k),.int _ n=>K (.int k (k.wrap n)) H
 |some _,some .string,.str s=>K (.str s) H
 |some .string,some (.slice e),.str s=>
  match A.P.underlying e with
  |some (.int .u8)=>ask (decide (s.size<=70368744177664)) (K (.all H.bl.length) (push H (.cells (.int .u8) (mO s))))
  |_=>none
 |some (.slice e),some .string,x=>
  match A.P.underlying e with
  |some (.int .u8)=>(rowsOf H (.int .u8) x).bind fun l=>K (.str (xai l)) H
  |_=>none
 |_,_,_=>none
variable {k:KT}
def ZB(i:od k)(z:UV)(K:UV->Bool->Option X):List (od k×UV)->Option X
 |[]=>K z false
 |(j,v)::es=>cond (UI k i j) (K v true) (ZB i z K es)
def kM(i:od k)(v:UV)(K:List (od k×UV)->Option X):List (od k×UV)->Option X
 |[]=>K [(i,v)]
 |(j,w)::es=>cond (UI k i j) (K ((i,v)::es)) (kM i v (fun sd=>K ((j,w)::sd)) es)
def qp(i:od k)(K:List (od k×UV)->Option X):List (od k×UV)->Option X
 |[]=>K []
 |(j,w)::es=>cond (UI k i j) (K es) (qp i (fun sd=>K ((j,w)::sd)) es)
def Pz(t:TypeId):Option KT:=
 match A.P.underlying t with
 |some (.int k)=>some (.int k)
 |some .string=>some .str
 |_=>none
def lookup(H:UH)(t:TypeId)(m i:UV)(ok:Bool)(K:UV->Option X):Option X:=
 match A.P.underlying t with
 |some (.map kt et)=>
  match m with
  | .mp b=>
   match H.bl[b]? with
   |some (.uk k es)=>if Pz A kt=some k then(keyOf? k i).bind fun i=>(zeroV A et).bind fun z=>ZB i z (fun v b=>K (if ok then .Qc [v,.bool b]else v)) es else none
   |some (.vh k g c l)=>if Pz A kt=some k then(keyOf? k i).bind fun i=>(zeroV A et).bind fun z=>cond (QB i l) (K (if ok then .Qc [valOf g c (Eu i (MU c) l),.bool true]else valOf g c (Eu i (MU c) l))) (K (if ok then .Qc [z,.bool false]else z))else none
   |_=>none
  |_=>none
 |_=>none
def s8(g:Bool)(c:CT)(x:UV):Option (Fb c):=
 match g,x with
 |true,.agg cs=>xI c cs
 |false,x=>if width c=1 then xI c [x]else none
 |_,_=>none
def mapUpdate(H:UH)(t:TypeId)(m i x:UV)(K:UH->Option X):Option X:=
 match A.P.underlying t,m with
 |some (.map kt _),.mp b=>
  if H.wm<=b then
   match H.bl[b]? with
   |some (.uk k es)=>if Pz A kt=some k/\Rb 8 x then(keyOf? k i).bind fun i=>kM i x (fun sd=>K (Sa H b (.uk k sd))) es else none
   |some (.vh k g c l)=>if Pz A kt=some k then(keyOf? k i).bind fun i=>(s8 g c x).bind fun x=>K (Sa H b (.vh k g c (Ix i x l)))else none
   |_=>none
  else none
 |_,_=>none
def Bf(H:UH)(t:TypeId)(m i:UV)(K:UH->Option X):Option X:=
 match A.P.underlying t,m with
 |some (.map kt _),.mp b=>
  if H.wm<=b then
   match H.bl[b]? with
   |some (.uk k es)=>if Pz A kt=some k then(keyOf? k i).bind fun i=>qp i (fun sd=>K (Sa H b (.uk k sd))) es else none
   |some (.vh k g c l)=>if Pz A kt=some k then(keyOf? k i).bind fun i=>K (Sa H b (.vh k g c (Yz i l)))else none
   |_=>none
  else none
 |_,_=>none
def PG(k:KT)(et:TypeId):UB:=
 match V.isAgg A et,x3 A 16 et with
 |some g,some c=>if g||decide (width c=1)then .vh k g c []else .uk k []
 |_,_=> .uk k []
def toInt:UV->Option Int
 | .int _ n=>some n
 |_=>none
def Rg(e:List (Nat×US)):Option Operand->Option (Option Int)
 |none=>some none
 |some x=>(val Ra e x).bind fun a=>(toInt a).map some
def qW:UV->UV->Option UV
 | .int k x,.int _ y=>some (.int k (if y>x then y else x))
 |_,_=>none
def mW:UV->UV->Option UV
 | .int k x,.int _ y=>some (.int k (if y<x then y else x))
 |_,_=>none
def xl(f:UV->UV->Option UV)(x:UV):List UV->Option UV
 |[]=>some x
 |y::ys=>(f x y).bind fun z=>xl f z ys
def jW:UV->Bool
 | .str _=>false
 |_=>true
def builtin(H:UH)(b:Builtin)(argTypes:Array TypeId)(args:List UV)(K:UV->UH->Option X):Option X:=
 match b,args with
 | .append,[x,y]=>append A H argTypes x y K
 | .len,[x]=>
  argTypes[0]?.bind fun t=>
   match A.P.underlying t,x with
   |some .string,.str s=>K (.int .i64 s.size) H
   |some (.slice _),.Ya|some (.slice _),.Pd=>K (.int .i64 0) H
   |some (.slice _),.lit _ l=>K (.int .i64 l.length) H
   |some (.slice _),.all b=>match H.bl[b]? with|some (.cells _ l)=>K (.int .i64 l.length) H|some (.deep _ l)=>K (.int .i64 l.length) H|_=>none
   |some (.slice _),.Qp b r=>match H.bl[b]? with|some (.deep _ l)=>K (.int .i64 (l.getD r []).length) H|_=>none
   |some (.slice _),.sl _ _ n=>K (.int .i64 n) H
   |some (.map _ _),.mp b=>match H.bl[b]? with|some (.uk _ es)=>K (.int .i64 es.length) H|some (.vh _ _ _ l)=>K (.int .i64 l.length) H|_=>none
   |some (.array n _),_=>K (.int .i64 n) H
   |_,_=>none
 | .max,x::xs=>(xl qW x xs).bind fun v=>K v H
 | .min,x::xs=>(xl mW x xs).bind fun v=>K v H
 | .delete,[m,k]=>argTypes[0]?.bind fun t=>Bf A H t m k fun H'=>K (.Qc []) H'
 | .copy,[x,y]=>
  argTypes[0]?.bind fun t=>(V.elem? A t).bind fun e=>(V.size A e).bind fun z=>
   if jW y then
    match x with
    | .sl b r n=>
     match H.bl[b]? with
     |some (.cells c l)=>if H.wm<=b/\width c=z then(rowsOf H c y).bind fun g=>K (.int .i64 (min g.length n:Nat)) (Sa H b (.cells c (Zz r (min g.length n) g l)))else none
     |_=>none
    | .all b=>
     match H.bl[b]? with
     |some (.cells c l)=>if H.wm<=b/\width c=z then(rowsOf H c y).bind fun g=>K (.int .i64 (min g.length l.length:Nat)) (Sa H b (.cells c (Zz 0 (min g.length l.length) g l)))else none
     |_=>none
    |_=>none
   else none
 |_,_=>none
def wW(cs:List UV):Bool:=match cs with|[.Me,.Ya]=>true|_=>false
variable [TB:ZC]
def box(s:St)(t:TypeId)(Wg:Bool)(cs:List UV):US×St:=
 if Wg then(.loc s.F.length 0,{ s with F:=s.F++[cs] })
 else if t=TB.bT/\wW cs=true then(.v (.ptr (s.H.bl.length+1) 0),{ s with H:=push (push s.H (.Rp .empty)) (.Mm (.all s.H.bl.length)) })
 else(.v (.ptr s.H.bl.length 0),{ s with H:=push s.H (.Za cs) })
def boxed(s:St)(t:TypeId)(Wg:Bool)(cs:List UV)(K:US->St->Option X):Option X:=if Wg||decide (0<cs.length)then K (box s t Wg cs).1 (box s t Wg cs).2 else none
def WM(v:UV)(H:UH):Option (UV×UH):=
 match v with
 | .all b=>if H.wm<=b then(match H.bl[b]? with|some (.cells c l)=>some (.lit c l,Sa H b .dead)|some (.deep c l)=>some (.lit (.slice c) l,Sa H b .dead)|_=>none)else none
 |_=>none
structure Env where
 join:Nat->Bool
 call:(X:Type)->UV->List UV->UH->(UV->UH->Option X)->Option X
 loop:(X:Type)->Nat->St->(V.Ex->St->Option X)->Option X
def op(env:Env)(Fa:List Nat)(s:St)(o:Oper)(K:US->St->Option X):Option X:=
 match o.op with
 | .move x| .assign x=>(operand Ra s.e x).bind fun v=>K v s
 | .pick c a b=>(val Ra s.e c).bind fun
  | .bool p=>cond p ((operand Ra s.e a).bind fun v=>K v s) ((operand Ra s.e b).bind fun v=>K v s)
  |_=>none
 | .alloc t=>(zero A t).bind fun z=>boxed s t ((o.dst.map (Fa.contains ·)).getD false) z K
 | .box t x=>(val Ra s.e x).bind fun a=>a.cells?.bind fun cs=>boxed s t ((o.dst.map (Fa.contains ·)).getD false) cs K
 | .build t ps=>(parts Ra s.e ps.toList).bind fun l=>(build A t l).bind fun v=>K (.v v) s
 | .buildSlice t n ps=>(parts Ra s.e ps.toList).bind fun l=>(buildSlice A s.H t n l).bind fun(v,H)=>(cond (V.Nn Fa o) (WM v H) (some (v,H))).bind fun(v,H)=>K (.v v) { s with H:=H }
 | .load t x=>(operand Ra s.e x).bind fun p=>(load A s t p).bind fun v=>K (.v v) s
 | .store t x y=>(operand Ra s.e x).bind fun p=>(val Ra s.e y).bind fun a=>(store A s t p a).bind fun s'=>K (.v .Sb) s'
 | .nilCheck x=>(operand Ra s.e x).bind fun
  | .loc i c=>K (.loc i c) s
  | .v (.ptr b c)=>K (.v (.ptr b c)) s
  | .v (.Um b r c)=>K (.v (.Um b r c)) s
  | .v (.cq b r j c)=>K (.v (.cq b r j c)) s
  | .v (.Bd row)=>K (.v (.Bd row)) s
  | .v (.fn f cs)=>K (.v (.fn f cs)) s
  | .v (.yl b)=>K (.v (.yl b)) s
  |_=>none
 | .binOp b t x y _=>(val Ra s.e x).bind fun u=>(val Ra s.e y).bind fun v=>binop A b t u v fun r=>K (.v r) s
 | .unOp u _ x=>(val Ra s.e x).bind fun v=>(unop u v).bind fun r=>K (.v r) s
 | .convert src dst x=>(val Ra s.e x).bind fun v=>convert A s.H src dst v fun r H=>K (.v r) { s with H:=H }
 | .makeFunc (.func f) first jh=>if first.size=0 then(dh Ra s.e jh.toList).bind fun l=>K (.v (.fn f l)) s else none
 | .makeMap t r=>
  (match r with|none=>some ()|some x=>(match A.P.underlying t with|some (.map _ _)=>(val Ra s.e x).bind fun v=>(toInt v).map fun _=>()|_=>none)).bind fun _=>
   match A.P.underlying t with
   |some (.map kt et)=>(Pz A kt).bind fun k=>K (.v (.mp s.H.bl.length)) { s with H:=push s.H (PG A k et) }
   |_=>none
 | .makeSlice t l c=>(val Ra s.e l).bind fun u=>(val Ra s.e c).bind fun v=>makeSlice A s.H t u v fun r H=>K (.v r) { s with H:=H }
 | .slice t x lo hi none=>(val Ra s.e x).bind fun v=>(Rg Ra s.e lo).bind fun l=>(Rg Ra s.e hi).bind fun h=>slice A s.H t v l h fun r=>K (.v r) s
 | .slice t x none (some h) (some m)=>(val Ra s.e x).bind fun v=>(val Ra s.e h).bind fun a=>(val Ra s.e m).bind fun b=>if xW a&&xW b then(Di A s.H t v).bind fun(r,H)=>K (.v r) { s with H:=H }else none
 | .fieldAddr t x f=>(operand Ra s.e x).bind fun p=>(V.field? A t f).bind fun fd=>(V.size A fd.type).bind fun n=>if n=0 then none else(Lg fd.offset p).bind fun v=>K v s
 | .field t x f=>(val Ra s.e x).bind fun
  | .agg cs=>(V.field? A t f).bind fun fd=>(part A fd.type cs fd.offset).bind fun v=>K (.v v) s
  |_=>none
 | .indexAddr t x i=>(operand Ra s.e x).bind fun p=>(val Ra s.e i).bind fun n=>(toInt n).bind fun n=>indexAddr A s.H t p n fun v=>K v s
 | .index t x i=>(val Ra s.e x).bind fun v=>(val Ra s.e i).bind fun n=>(toInt n).bind fun n=>index A t v n fun r=>K (.v r) s
 | .lookup t x i ok=>(val Ra s.e x).bind fun m=>(val Ra s.e i).bind fun k=>lookup A s.H t m k ok fun r=>K (.v r) s
 | .mapUpdate t m k x| .insert t m k x=>(val Ra s.e m).bind fun m=>(val Ra s.e k).bind fun k=>(val Ra s.e x).bind fun v=>mapUpdate A s.H t m k v fun H=>K (.v .Sb) { s with H:=H }
 | .extract x i=>(val Ra s.e x).bind fun
  | .Qc vs=>vs[i]?.bind fun v=>K (.v v) s
  |_=>none
 | .call c=>
  (dh Ra s.e c.args.toList).bind fun args=>
   match c.callee with
   | .value f=>(val Ra s.e f).bind fun g=>env.call X g args s.H fun r H=>K (.v r) { s with H:=H }
   | .builtin b=>builtin A s.H b c.argTypes args fun r H=>K (.v r) { s with H:=H }
   |_=>none
 |_=>none
def put(s:St)(n:Nat)(dst:Option Nat)(v:US):Option St:=
 match dst with
 |none=>some s
 |some d=>if d<n then some { s with e:=(d,v)::s.e }else none
def nf(w:Bool):Option US->V.kf
 |some (.loc i _)=> .box i w
 |some (.v (.Bd _))=>if w then .heap w else .no
 |_=> .heap w
def Pr:Option US->V.kf
 |some (.v (.sl _ _ _))|some (.v (.all _))|some (.v (.Qp _ _))=> .heap false
 |_=> .no
def yh:Option (List UV)->V.kf
 |some [.mp _]=> .heap false
 |some _=> .no
 |none=> .heap false
def Wc(Fa:List Nat)(s:St)(o:Oper)(quiet:Bool):V.kf:=
 match o.op with
 | .load _ x=>nf false (operand Ra s.e x)
 | .indexAddr _ x _=>Pr (operand Ra s.e x)
 | .store _ x _=>nf true (operand Ra s.e x)
 | .alloc _| .box _ _=>if V.Wg Fa o then .no else .heap false
 | .mapUpdate .. | .insert .. => .heap true
 | .call { callee:= .builtin .copy,.. }| .call { callee:= .builtin .delete,.. }=> .heap true
 | .call { callee:= .builtin .max,.. }| .call { callee:= .builtin .min,.. }=> .no
 | .call { callee:= .builtin .len,args,.. }=>yh (dh Ra s.e args.toList)
 | .call _=> .heap (!quiet)
 | .move _| .assign _| .pick .. | .build .. | .nilCheck _| .binOp .. | .unOp .. | .makeFunc .. | .fieldAddr .. | .field .. | .index .. | .extract .. => .no
 |_=> .heap false
def guard(os:Array Oper)(s:St)(o:Oper)(K:Bool->St->Option X):Option X:=
 match o.guard with
 |none=>K true s
 |some (j,want)=>
  match(os[j]?).bind (·.dst)with
  |some d=>match get s.e d with
   | .v (.bool b)=>cond b (K want { s with e:=(d,.v (.bool true))::s.e }) (K (!want) { s with e:=(d,.v (.bool false))::s.e })
   | .v (.Qc [])=>K false s
   |_=>none
  |none=>none
def ops(env:Env)(Fa:List Nat)(n:Nat)(all:Array Oper):List Oper->St->(St->Option X)->Option X
 |[],s,K=>K s
 |o::rest,s,K=>guard all s o fun
  |true,s=>op A Ra env Fa s o fun v s=>fU v fun v=>(put s n o.dst v).bind fun s=>fSt s fun s=>ops env Fa n all rest s K
  |false,s=>(put s n o.dst (.v (.Qc []))).bind fun s=>ops env Fa n all rest s K
def LO(env:Env)(Fa:List Nat)(t:V.kf)(s:St)(o:Oper)(K:US->St->Option X):Option X:=
 match t with
 | .heap true=>op A Ra env Fa s o K
 |_=>op A Ra env Fa { s with H:={ s.H with wm:=s.H.bl.length } } o fun v s'=>K v { s' with H:={ s'.H with wm:=s.H.wm } }
inductive Rec where
 |load (p:UV) (t:TypeId) (v:UV)
 |look (b:Nat) (k:KT) (es:List (od k×UV))
def tf(s:St)(o:Oper):Bool:=
 V.jk A o&&match o.op with
  | .load _ x=>(match operand Ra s.e x with|some (.v (.ptr ..))|some (.v (.Um ..))|some (.v (.cq ..))=>true|_=>false)
  |_=>true
def jA(m:Nat):US->Bool
 | .v (.mp b)=>decide (b<m)
 | .v (.fn _ [])| .v .Ef| .v .af=>true
 |_=>false
def MV:UV->UV->Bool
 | .mp b,.mp b'=>b==b'
 | .fn f [],.fn f' []=>f==f'
 | .Ef,.Ef=>true
 | .af,.af=>true
 |_,_=>false
def OV:UV->UV->Bool
 | .fn f [],.fn f' []=>f==f'
 | .af,.af=>true
 |_,_=>false
def sameKey:(k k':KT)->od k->od k'->Bool
 | .int a,.int b=>fun(i j:Int)=>decide (a=b)&&decide (i=j)
 |_,_=>fun _ _=>false
def vu(k k':KT):List (od k×UV)->List (od k'×UV)->Bool
 |[],[]=>true
 |(i,v)::es,(j,w)::sd=>sameKey k k' i j&&OV v w&&vu k k' es sd
 |_,_=>false
def HO(s:St)(o:Oper)(v:US):Option Rec:=
 match o.op with
 | .load t x=>
  match operand Ra s.e x,v with
  |some (.v p),.v a=>some (.load p t a)
  |_,_=>none
 | .lookup _ x _ _=>
  match val Ra s.e x with
  |some (.mp b)=>(match s.H.bl[b]? with|some (.uk k es)=>if vu k k es es then some (.look b k es)else none|_=>none)
  |_=>none
 |_=>none
def oJ(s:St):Rec->Bool
 | .load p t a=>(match load A s t (.v p)with|some a'=>MV a a'|none=>false)
 | .look b k es=>(match s.H.bl[b]? with|some (.uk k' sd)=>vu k k' es sd|_=>false)
def nk(env:Env)(Fa:List Nat)(n:Nat)(all:Array Oper)(b:List Nat):List Oper->Nat->St->List V.kf->List Rec->(St->List V.kf->Option X)->Option X
 |[],_,s,l,_,K=>K s l
 |o::rest,i,s,l,rs,K=>guard all s o fun
  |true,s=>
   if tf A Ra s o then
    op A Ra env Fa s o fun v _=>fU v fun v=>
     if jA s.H.bl.length v&&V.VR b i l then
      (HO Ra s o v).bind fun r=>(put s n o.dst v).bind fun BL=>fSt BL fun BL=>nk env Fa n all b rest (i+1) BL (l++[.no]) (rs++[r]) K
     else none
   else
    LO A Ra env Fa (Wc Ra Fa s o (V.quietAt A Fa all.toList b i o)) s o fun v s'=>fU v fun v=>(put s' n o.dst v).bind fun BL=>fSt BL fun BL=>
     if rs.all (oJ A BL)then nk env Fa n all b rest (i+1) BL (l++[Wc Ra Fa s o (V.quietAt A Fa all.toList b i o)]) rs K else none
  |false,s=>(put s n o.dst (.v (.Qc []))).bind fun s=>nk env Fa n all b rest (i+1) s (l++[.no]) rs K
def region(env:Env)(Fa:List Nat)(n:Nat)(os:Array Oper)(draw:Bool)(s:St)(K:St->Option X):Option X:=
 if draw then
  if V.BG os (V.Ik os.toList [])then
   nk A Ra env Fa n os (V.Ik os.toList []) os.toList 0 s [] [] fun s l=>if V.Xu (V.Ik os.toList []) l then K s else none
  else none
 else ops A Ra env Fa n os os.toList s K
def ids:Nat->UV->List Nat
 |0,_=>[]
 |_+1,.ptr b _|_+1,.Um b _ _|_+1,.sl b _ _|_+1,.all b|_+1,.Qp b _|_+1,.cq b _ _ _|_+1,.mp b|_+1,.yl b=>[b]
 |d+1,.fn _ cs|d+1,.agg cs|d+1,.Qc cs=>cs.flatMap (ids d)
 |_+1,_=>[]
def eak:UB->List Nat
 | .Za row=>row.flatMap (ids 8)
 | .loop _ env _ _=>env.flatMap fun p=>ids 8 p.2
 | .Mm q=>ids 8 q
 |_=>[]
def Uaf:US->List Nat
 | .v x=>ids 8 x
 | .loc .. =>[]
def reach(H:UH):Nat->List Nat->List Nat->List Nat
 |0,_,seen=>seen
 |_+1,[],seen=>seen
 |d+1,b::w,seen=>if seen.contains b then reach H d w seen else reach H d (eak (H.bl.getD b .dead)++w) (seen++[b])
def Xd:UB->Bool
 | .dead=>false
 |_=>true
def pos(b:Nat):List Nat->Nat->Option Nat
 |[],_=>none
 |x::l,i=>if x=b then some i else pos b l (i+1)
def Rj(φ:Nat->Option Nat):Nat->UV->UV
 |0,_=> .Sb
 |_+1,.ptr b c=>match φ b with|some b'=> .ptr b' c|none=> .Sb
 |_+1,.Um b r c=>match φ b with|some b'=> .Um b' r c|none=> .Sb
 |_+1,.sl b r n=>match φ b with|some b'=> .sl b' r n|none=> .Sb
 |_+1,.all b=>match φ b with|some b'=> .all b'|none=> .Sb
 |_+1,.Qp b r=>match φ b with|some b'=> .Qp b' r|none=> .Sb
 |_+1,.cq b r j c=>match φ b with|some b'=> .cq b' r j c|none=> .Sb
 |_+1,.mp b=>match φ b with|some b'=> .mp b'|none=> .Sb
 |_+1,.yl b=>match φ b with|some b'=> .yl b'|none=> .Sb
 |d+1,.fn f cs=> .fn f (cs.map (Rj φ d))
 |d+1,.agg cs=> .agg (cs.map (Rj φ d))
 |d+1,.Qc cs=> .Qc (cs.map (Rj φ d))
 |_+1,x=>x
def yu(φ:Nat->Option Nat):UB->UB
 | .Za row=> .Za (row.map (Rj φ 8))
 | .loop id env st pe=> .loop id (env.map fun p=>(p.1,Rj φ 8 p.2)) st pe
 | .Mm q=> .Mm (Rj φ 8 q)
 |x=>x
def Vm:List (Nat×US)->List Nat->List Nat
 |[],l=>l
 |(_,.loc i _)::e,l=>Vm e (if l.contains i then l else l++[i])
 |_::e,l=>Vm e l
def OR(φ ψ:Nat->Option Nat):US->US
 | .v x=> .v (Rj φ 8 x)
 | .loc i c=>match ψ i with|some i'=> .loc i' c|none=> .v .Sb
def compact(keep:List Nat)(s:St):St:=
 let e:=keep.map fun i=>(i,get s.e i)
 let fs:=Vm e []
 let rows:=fs.map fun i=>s.F.getD i []
 let bs:=ua s.base++(reach s.H 64 (ua s.base++(e.flatMap fun p=>Uaf p.2)++rows.flatMap fun row=>row.flatMap (ids 8)) []).filter (fun b=>decide (s.base<=b))
 let φ:=fun b=>pos b bs 0
 let ψ:=fun i=>pos i fs 0
 { e:=e.map fun p=>(p.1,OR φ ψ p.2),F:=rows.map fun row=>row.map (Rj φ 8),H:=⟨bs.map fun b=>yu φ (s.H.bl.getD b .dead),s.H.wm⟩,base:=s.base }
inductive Sh where
 |any
 |Sb
 |lit (c:CT)
 |own (c:CT)
 |cut (c:CT)
 |deep (c:CT)
 |mv (c:CT)
 |map (k:KT) (g:Bool) (c:CT)
 |agg (l:List Sh)
 |Qc (l:List Sh)
 |kill (l:List Nat) (sh:Sh)
 deriving Inhabited
def Sh.DB:Sh->List Nat
 | .kill l _=>l
 |_=>[]
def Sh.inner:Sh->Sh
 | .kill _ sh=>sh
 |sh=>sh
def Kv:List Nat->UH->UH
 |[],H=>H
 |b::l,H=>Kv l (Sa H b .dead)
def Z2{k:KT}(g:Bool)(c:CT):List (od k×UV)->Option (List (od k×Fb c))
 |[]=>some []
 |(i,x)::es=>(s8 g c x).bind fun y=>(Z2 g c es).bind fun l=>some ((i,y)::l)
def N9(d:Nat)(H:UH)(c:CT)(b:Nat):Option (List (Fb c)):=
 match H.bl[b]? with
 |some (.cells c' l)=>if h:c'=c then some (h ▸ l)else none
 |some (.deep c' l)=>if h:CT.slice c'=c/\1<d then some (h.1 ▸ l)else none
 |_=>none
def pg:Nat->Bool->Sh->UV->UH->Option (UV×UH)
  |0,_,_,_,_=>none
  |_+1,_,.any,x,H=>some (x,H)
  |_+1,_,.Sb,_,H=>some (.Sb,H)
  |_+1,_,.lit c,.Ya,H|_+1,_,.lit c,.Pd,H=>some (.lit c [],H)
  |d+1,fz,.lit c,.sl b r n,H=>if fz&&decide (0<d)&&decide (H.wm<=b)then(rowsOf H c (.sl b r n)).bind fun l=>some (.lit c l,Sa H b .dead)else none
  |d+1,fz,.lit c,.all b,H=>if fz&&decide (0<d)&&decide (H.wm<=b)then(N9 d H c b).bind fun l=>some (.lit c l,Sa H b .dead)else none
  |_+1,_,.lit _,.lit c l,H=>some (.lit c l,H)
  |_+1,_,.own c,.Ya,H|_+1,_,.own c,.Pd,H=>some (.all H.bl.length,push H (.cells c []))
  |_+1,_,.own c,.sl b 0 n,H=>
   match H.bl[b]? with
   |some (.cells c' l)=>if c'=c/\H.wm<=b then some (.all H.bl.length,push (Sa H b .dead) (.cells c' (l.take n)))else none
   |_=>none
  |_+1,_,.cut c,.Ya,H|_+1,_,.cut c,.Pd,H=>some (.sl H.bl.length 0 0,push H (.cells c []))
  |_+1,_,.cut _,.sl b r n,H=>some (.sl b r n,H)
  |_+1,_,.cut _,.all b,H=>match H.bl[b]? with|some (.cells _ l)=>some (.sl b 0 l.length,H)|_=>none
  |_+1,_,.own _,.all b,H=>some (.all b,H)
  |_+1,_,.deep c,.Ya,H|_+1,_,.deep c,.Pd,H=>some (.all H.bl.length,push H (.deep c []))
  |_+1,_,.deep _,.all b,H=>some (.all b,H)
  |_+1,_,.mv c,.all b,H=>
   match H.bl[b]? with
   |some (.cells c' l)=>if c'=c/\H.wm<=b then some (.all H.bl.length,push (Sa H b .dead) (.cells c' l))else none
   |_=>none
  |_+1,_,.map k g c,.mp b,H=>
   match H.bl[b]? with
   |some (.uk k' es)=>if h:k'=k then(Z2 g c (h ▸ es)).bind fun l=>some (.mp b,Sa H b (.vh k g c l))else none
   |some (.vh ..)=>some (.mp b,H)
   |_=>none
  |d+1,fz,.agg Ru,.agg cs,H=>(Uh (pg d fz) Ru cs H).map fun(l,H)=>(.agg l,H)
  |d+1,fz,.Qc Ru,.Qc cs,H=>(Uh (pg d fz) Ru cs H).map fun(l,H)=>(.Qc l,H)
  |_+1,_,_,_,_=>none
 where
  Uh (m:Sh->UV->UH->Option (UV×UH)):List Sh->List UV->UH->Option (List UV×UH)
   |[],[],H=>some ([],H)
   |s::ss,x::xs,H=>(m s x H).bind fun(x',H)=>(Uh m ss xs H).bind fun(kq,H)=>some (x'::kq,H)
   |_,_,_=>none
def zq(Ru:List (Nat×Sh)):List (Nat×US)->UH->Option (List (Nat×US)×UH)
 |[],H=>some ([],H)
 |(i,.v x)::e,H=>(match Ru.lookup i with|some sh=>pg 8 false sh x H|none=>some (x,H)).bind fun(x',H)=>(zq Ru e H).bind fun(e',H)=>some ((i,.v x')::e',H)
 |p::e,H=>(zq Ru e H).bind fun(e',H)=>some (p::e',H)
def lW(sh:Option (List Sh))(row:List UV)(H:UH):Option (List UV×UH):=
 match sh with
 |some l=>pg.Uh (pg 8 false) l row H
 |none=>some (row,H)
def Xy(Ru:List (Nat×List Sh)):Nat->List (List UV)->UH->Option (List (List UV)×UH)
 |_,[],H=>some ([],H)
 |i,row::F,H=>(lW (Ru.lookup i) row H).bind fun(Jb,H)=>(Xy Ru (i+1) F H).bind fun(F',H)=>some (Jb::F',H)
def Yy:List (Nat×List Sh)->UH->Option UH
 |[],H=>some H
 |(b,Ru)::l,H=>
  match H.bl[b]? with
  |some (.Za row)=>(pg.Uh (pg 8 false) Ru row H).bind fun(Jb,H1)=>match H1.bl[b]? with|some (.Za _)=>Yy l (Sa H1 b (.Za Jb))|_=>none
  |_=>none
structure qG where
 keep:List Nat
 FO:List (Nat×Sh)
 boxes:List (Nat×List Sh)
 Raj:List (Nat×List Sh)
def Wp(p:qG)(s:St):Option St:=
 if s.H.wm<=s.base then(zq p.FO (compact p.keep s).e (compact p.keep s).H).bind fun(e,H)=>(Xy p.boxes 0 (compact p.keep s).F H).bind fun(F,H)=>(Yy p.Raj H).bind fun H=>if H.wm<=s.base then some (compact p.keep { e,F,H,base:=s.base })else none else none
def qf:Code->Nat
 | .region id _ _=>id
 | .seq a _=>qf a
 | .cond _ a _=>qf a
 | .block _ c=>qf c
 | .loop c=>qf c
 | .scope c=>qf c
 | .rangeFunc _ _ a _=>qf a
 |_=>0
def uu(s:St)(x:Operand)(b:Bool):St:=
 match x with
 | .tmp t=>{ s with e:=(t,.v (.bool b))::s.e }
 |_=>s
def code(env:Env)(Fa:List Nat)(n:Nat):Code->St->(V.Ex->St->Option X)->Option X
 | .skip,s,K=>K .normal s
 | .label _,s,K=>K .normal s
 | .region id os draw,s,K=>cond (env.join (2000000+id)) (env.loop X (2000000+id) s K) (region A Ra env Fa n os draw s fun s=>K .normal s)
 | .seq a b,s,K=>code env Fa n a s fun
  | .normal,s=>code env Fa n b s K
  |ex,s=>K ex s
 | .cond c x y,s,K=>cond (env.join (1000000+qf x)) (env.loop X (1000000+qf x) s K) ((val Ra s.e c).bind fun
  | .bool b=>cond b (code env Fa n x (uu s c true) K) (code env Fa n y (uu s c false) K)
  |_=>none)
 | .block id c,s,K=>code env Fa n c s fun
  | .exit gD,s=>if gD=id then K .normal s else K (.exit gD) s
  |ex,s=>K ex s
 | .scope c,s,K=>code env Fa n c s K
 | .loop c,s,K=>env.loop X (qf c) s K
 | .rangeFunc g ps a b,s,K=>env.loop X (qf (.rangeFunc g ps a b)) s K
 | .exit id,s,K=>K (.exit id) s
 | .ret,s,K=>K .ret s
 |_,_,_=>none
def ue:List UV->Nat->List (Nat×US)
 |[],_=>[]
 |a::as,i=>(i,.v a)::ue as (i+1)
def results(s:St):List ResultVar->Option (List UV)
 |[]=>some []
 | .tmp t::rs=>(match get s.e t with| .v .Sb=>none| .v a=>some a|_=>none).bind fun a=>(results s rs).bind fun l=>some (a::l)
 | .cell p t::rs=>(load A s t (get s.e p)).bind fun a=>(results s rs).bind fun l=>some (a::l)
def result:List UV->UV
 |[a]=>a
 |l=> .Qc l
def gc(base:Nat)(r:UV)(H:UH):UV×UH:=
 let s:=compact [0] ⟨[(0,.v r)],[],H,base⟩
 (match get s.e 0 with| .v x=>x|_=> .Sb,s.H)
def iK(env:Env)(Fa:List Nat)(fn:Func)(sh:Sh)(fz:Bool)(args:List UV)(H:UH)(K:UV->UH->Option X):Option X:=
 match fn.body with
 |none=>none
 |some c=>
  if args.length<=fn.ntmps then
   code A Ra env Fa fn.ntmps c ⟨ue args 0,[],H,H.bl.length⟩ fun
    | .exit _,_=>none
    |_,s=>(results A s fn.results.toList).bind fun l=>(pg 8 fz sh.inner (result l) s.H).bind fun(r,H1)=>if(!fz||Rb 8 r)&&decide (H1.wm<=H.bl.length)then K (gc H.bl.length r (Kv sh.DB H1)).1 (gc H.bl.length r (Kv sh.DB H1)).2 else none
  else none
def kj:List Nat->List UV->List (Nat×US)->List (Nat×US)
 |p::ps,a::as,e=>kj ps as ((p,.v a)::e)
 |_,_,e=>e
def aO(e:List (Nat×US))(ks:List Nat):List (Nat×UV):=ks.map fun i=>(i,match get e i with| .v a=>a|_=> .Sb)
def Ce(e:List (Nat×UV)):List (Nat×US):=e.map fun p=>(p.1,US.v p.2)
def mJ(env:Env)(id n:Nat)(ks:List Nat)(g:Operand)(s:St)(K:V.Ex->St->Option X):Option X:=
 (val Ra s.e g).bind fun fv=>
  match fv with
  | .fn f cs=>
   if(match A.fns f with|some fn=>fn.body.isSome|none=>false)&&ks.all (fun i=>decide (i<n))then
    env.call X (.fn f cs) [.yl s.H.bl.length] (push s.H (.loop id (aO s.e ks) .ready .normal)) fun _ H'=>
     match H'.bl[s.H.bl.length]? with
     |some (.loop _ _ st pe)=>(match st with| .busy=>none|_=>K pe { s with H:=Sa H' s.H.bl.length .dead })
     |_=>none
   else none
  |_=>none
def CO(env:Env)(id:Nat)(r:RFn)(args:List UV)(H:UH)(K:UV->UH->Option X):Option X:=
 match args with
 | .yl b::as=>
  match H.bl[b]? with
  |some (.loop gD e .ready _)=>
   if gD=id/\as.length=r.ps.length/\H.wm<=b/\r.ps.all (fun p=>decide (p<r.n))=true then
    code A Ra env [] r.n r.assign ⟨kj r.ps as (Ce e),[],H,H.bl.length⟩ fun
     | .normal,s=>
      match s.H.bl[b]? with
      |some (.loop bP e1 .ready pe1)=>
       code A Ra env [] r.n r.body { s with H:=Sa s.H b (.loop bP e1 .busy pe1) } fun ex s2=>
        match s2.H.bl[b]? with
        |some (.loop aP e2 _ _)=>
         if s2.H.wm<=H.bl.length then
          K (.bool ex.Vg) (gc H.bl.length (.bool ex.Vg) (Sa s2.H b (.loop aP e2 (if ex.Vg then .ready else .done) ex))).2
         else none
        |_=>none
      |_=>none
     |_,_=>none
   else none
  |_=>none
 |_=>none
abbrev Spec:=(X:Type)->List UV->UH->(UV->UH->Option X)->Option X
def JC:List (FuncId×Spec)->FuncId->Spec
 |[],_,_,_,_,_=>none
 |(f,g)::l,f',X,args,H,K=>if f'=f then g X args H K else JC l f' X args H K
def EI(spec:(X:Type)->UV->List UV->UH->(UV->UH->Option X)->Option X)(fv:UV)(args:List UV)(H:UH)(K:UV->UH->Option X):Option X:=
 let bs0:=(reach H 64 ((fv::args).flatMap (ids 8)) []).filter (fun b=>Xd (H.bl.getD b .dead))
 let lo:=bs0.filter (fun b=>decide (b<H.wm))
 let bs:=lo++bs0.filter (fun b=>decide (H.wm<=b))
 let φ:=fun b=>pos b bs 0
 spec X (Rj φ 8 fv) (args.map (Rj φ 8)) ⟨bs.map fun b=>yu φ (H.bl.getD b .dead),lo.length⟩ fun r H1=>
  let news:=(reach H1 64 (ua bs.length++ids 8 r) []).filter (fun b=>decide (bs.length<=b))
  let ψ:=fun b=>if b<bs.length then bs[b]? else(pos b news 0).map (H.bl.length+ ·)
  K (Rj ψ 8 r) ⟨(ua H.bl.length).map (fun b=>match φ b with|some j=>yu ψ (H1.bl.getD j .dead)|none=>H.bl.getD b .dead)++news.map (fun b=>yu ψ (H1.bl.getD b .dead)),H.wm⟩
def cR(l:List (FuncId×Spec))(X:Type)(fv:UV)(args:List UV)(H:UH)(K:UV->UH->Option X):Option X:=
 EI (fun X fv args H K=>match fv with| .fn f cs=>JC l f X (args++cs) H K|_=>none) fv args H K
def I3(l ly:List (FuncId×Spec))(X:Type)(fv:UV)(args:List UV)(H:UH)(K:UV->UH->Option X):Option X:=
 EI (fun X fv args H K=>
  match fv with
  | .fn f cs=>JC l f X (args++cs) H K
  | .yl b=>(match H.bl[b]? with|some (.loop id _ _ _)=>JC ly id X (.yl b::args) H K|_=>none)
  |_=>none) fv args H K
end
end Go.U
namespace Go.U
open Go
structure Mp where
 ι:Nat->Nat->Option Nat
 len:Nat->Nat->Nat
 top:Nat
inductive RV(m:Mp):UV->V.AV->Prop
 |Sb (a:V.AV):RV m .Sb a
 |bool (b:Bool):RV m (.bool b) (.bool b)
 |int (k:IntKind) (n:Int):RV m (.int k n) (.int k n)
 |str (s:ByteArray):RV m (.str s) (.str s)
 |Me:RV m .Me .Me
 |ptr (b c x:Nat):m.ι b 0=some x->RV m (.ptr b c) (.ptr x 0 c)
 |Um (b r c x:Nat):m.ι b 0=some x->r<m.len b 0->RV m (.Um b r c) (.ptr x r c)
 |Bd (row:List UV) (Jb:List V.AV):Jb.length=row.length->(∀x∈row,closed 8 x=true)->
  (∀(c:Nat)(x:UV)(a:V.AV),row[c]?=some x->Jb[c]?=some a->RV m x a)->RV m (.Bd row) (.Bd Jb)
 |Ya:RV m .Ya .Ya
 |Pd:RV m .Pd .Pd
 |sl (b r n x:Nat):m.ι b 0=some x->r+n<=m.len b 0->RV m (.sl b r n) (.sl x r n)
 |Vt (b r:Nat) (a:V.AV):a= .Ya\/a= .Pd->RV m (.sl b r 0) a
 |all (b x:Nat):m.ι b 0=some x->RV m (.all b) (.sl x 0 (m.len b 0))
 |Wf (b:Nat) (a:V.AV):b<m.top->m.len b 0=0->a= .Ya\/a= .Pd->RV m (.all b) a
 |Qp (b r x:Nat):m.ι b (r+1)=some x->RV m (.Qp b r) (.sl x 0 (m.len b (r+1)))
 |Ju (b r:Nat) (a:V.AV):b<m.top->m.len b (r+1)=0->a= .Ya\/a= .Pd->RV m (.Qp b r) a
 |cq (b r j c x:Nat):m.ι b (r+1)=some x->j<m.len b (r+1)->RV m (.cq b r j c) (.ptr x j c)
 |lit (c:CT) (l:List (Fb c)) (rows:List (List V.AV)):rows.length=l.length->
  (∀(i:Nat)(row:List V.AV),rows[i]?=some row->row.length=width c)->
  (∀(i:Nat)(row:List V.AV)(k:Nat)(x:UV)(a:V.AV),rows[i]?=some row->(vw c l i)[k]?=some x->row[k]?=some a->RV m x a)->RV m (.lit c l) (.lit (width c) rows)
 |ri (c:CT) (a:V.AV):a= .Ya\/a= .Pd->RV m (.lit c []) a
 |Ef:RV m .Ef .Ef
 |mp (b x:Nat):m.ι b 0=some x->RV m (.mp b) (.mp x)
 |af:RV m .af .af
 |fn (f:FuncId) (cs:List UV) (as:List V.AV):as.length=cs.length->(∀(i:Nat)(x:UV)(a:V.AV),cs[i]?=some x->as[i]?=some a->RV m x a)->RV m (.fn f cs) (.fn f as)
 |yl (b x:Nat):m.ι b 0=some x->RV m (.yl b) (.yl x)
 |Sg:RV m .Sg .Sg
 |agg (cs:List UV) (as:List V.AV):as.length=cs.length->(∀(i:Nat)(x:UV)(a:V.AV),cs[i]?=some x->as[i]?=some a->RV m x a)->RV m (.agg cs) (.agg as)
 |Qc (cs:List UV) (as:List V.AV):as.length=cs.length->(∀(i:Nat)(x:UV)(a:V.AV),cs[i]?=some x->as[i]?=some a->RV m x a)->RV m (.Qc cs) (.Qc as)
def RL(m:Mp)(xs:List UV)(as:List V.AV):Prop:=as.length=xs.length/\∀(i:Nat)(x:UV)(a:V.AV),xs[i]?=some x->as[i]?=some a->RV m x a
structure Mp.Le(m m':Mp):Prop where
 of:∀b{s}x,m.ι b s=some x->m'.ι b s=some x/\m'.len b s=m.len b s
 top:m.top<=m'.top
 len:∀b,b<m.top->m'.len b=m.len b
theorem Mp.Le.refl(m:Mp):m.Le m:=⟨fun _ _ _ h=>⟨h,rfl⟩,va _,fun _ _=>rfl⟩
theorem Mp.Le.trans{m m' m'':Mp}(h:m.Le m')(h':m'.Le m''):m.Le m'':=⟨fun b _ x hb=>⟨(h'.of b x (h.of b x hb).1).1,(h'.of b x (h.of b x hb).1).2.trans (h.of b x hb).2⟩,Gb h.top h'.top,fun b hb=>(h'.len b (yb hb h.top)).trans (h.len b hb)⟩
theorem Nh:∀(c:CT)(x:Fb c),(enc c x).length=width c
 | .bool,_=>rfl
 | .int _,_=>rfl
 | .str,_=>rfl
 | .slice _,_=>rfl
 | .pair a b,(x,y)=>by simp[enc,width,Nh a x,Nh b y]
theorem Sl:∀(c:CT)(x:Fb c)(v:UV),v∈enc c x->closed 8 v=true
 | .bool,_,v,h=>by simp[enc]at h;subst h;rfl
 | .int _,_,v,h=>by simp[enc]at h;subst h;rfl
 | .str,_,v,h=>by simp[enc]at h;subst h;rfl
 | .slice _,_,v,h=>by simp[enc]at h;subst h;rfl
 | .pair a b,(x,y),v,h=>by
  simp only[enc,Kk]at h;rcases h with h|h
  ·exact Sl a x v h
  ·exact Sl b y v h
theorem Af(c:CT)(l:List (Fb c))(i:Nat):(vw c l i).length=width c:=Nh c _
theorem Vd(c:CT)(l:List (Fb c))(i:Nat)(v:UV)(h:v∈vw c l i):closed 8 v=true:=Sl c _ v h
theorem RV.mono{m m':Mp}(h:m.Le m'){x:UV}{a:V.AV}(hx:RV m x a):RV m' x a:=by
 induction hx with
 |Sb a=>exact .Sb a
 |bool b=>exact .bool b
 |int k n=>exact .int k n
 |str s=>exact .str s
 |Me=>exact .Me
 |ptr b c x hb=>exact .ptr b c x (h.of b x hb).1
 |Um b r c x hb hr=>exact .Um b r c x (h.of b x hb).1 (by rw[(h.of b x hb).2];exact hr)
 |Bd row Jb hl hc _ ih=>exact .Bd row Jb hl hc ih
 |Ya=>exact .Ya
 |Pd=>exact .Pd
 |sl b r n x hb hr=>exact .sl b r n x (h.of b x hb).1 (by rw[(h.of b x hb).2];exact hr)
 |Vt b r a ha=>exact .Vt b r a ha
 |all b x hb=>rw[<- (h.of b x hb).2];exact .all b x (h.of b x hb).1
 |Wf b a hb hl ha=>exact .Wf b a (yb hb h.top) (by rw[h.len b hb];exact hl) ha
 |Qp b r x hb=>rw[<- (h.of b x hb).2];exact .Qp b r x (h.of b x hb).1
 |Ju b r a hb hl ha=>exact .Ju b r a (yb hb h.top) (by rw[h.len b hb];exact hl) ha
 |cq b r j c x hb hr=>exact .cq b r j c x (h.of b x hb).1 (by rw[(h.of b x hb).2];exact hr)
 |lit c l rows h1 h2 _ ih=>exact .lit c l rows h1 h2 ih
 |ri c a ha=>exact .ri c a ha
 |Ef=>exact .Ef
 |mp b x hb=>exact .mp b x (h.of b x hb).1
 |af=>exact .af
 |fn f cs as hl _ ih=>exact .fn f cs as hl ih
 |yl b x hb=>exact .yl b x (h.of b x hb).1
 |Sg=>exact .Sg
 |agg cs as hl _ ih=>exact .agg cs as hl ih
 |Qc cs as hl _ ih=>exact .Qc cs as hl ih
theorem RL.mono{m m':Mp}(h:m.Le m'){xs:List UV}{as:List V.AV}(hx:RL m xs as):RL m' xs as:=⟨hx.1,fun i x a h1 h2=>(hx.2 i x a h1 h2).mono h⟩
theorem RV.free{m:Mp}(m':Mp){x:UV}{a:V.AV}(hx:RV m x a):∀d,closed d x=true->RV m' x a:=by
 induction hx with
 |Sb a=>intro d hd;cases d<;>simp[closed]at hd
 |bool b=>intro _ _;exact .bool b
 |int k n=>intro _ _;exact .int k n
 |str s=>intro _ _;exact .str s
 |Me=>intro _ _;exact .Me
 |ptr b c x hb=>intro d hd;cases d<;>simp[closed]at hd
 |Um b r c x hb hr=>intro d hd;cases d<;>simp[closed]at hd
 |Bd row Jb hl hc _ ih=>intro _ _;exact .Bd row Jb hl hc fun c x a h1 h2=>ih c x a h1 h2 8 (hc x (Db h1))
 |Ya=>intro _ _;exact .Ya
 |Pd=>intro _ _;exact .Pd
 |sl b r n x hb hr=>intro d hd;cases d<;>simp[closed]at hd
 |Vt b r a ha=>intro d hd;cases d<;>simp[closed]at hd
 |all b x hb=>intro d hd;cases d<;>simp[closed]at hd
 |Wf b a hb hl ha=>intro d hd;cases d<;>simp[closed]at hd
 |Qp b r x hb=>intro d hd;cases d<;>simp[closed]at hd
 |Ju b r a hb hl ha=>intro d hd;cases d<;>simp[closed]at hd
 |cq b r j c x hb hr=>intro d hd;cases d<;>simp[closed]at hd
 |lit c l rows h1 h2 _ ih=>intro _ _;exact .lit c l rows h1 h2 fun i row k x a k1 k2 k3=>ih i row k x a k1 k2 k3 8 (Vd c l i x (Db k2))
 |ri c a ha=>intro _ _;exact .ri c a ha
 |Ef=>intro _ _;exact .Ef
 |mp b x hb=>intro d hd;cases d<;>simp[closed]at hd
 |af=>intro _ _;exact .af
 |fn f cs as hl _ ih=>
  intro d hd;cases d with
  |zero=>simp[closed]at hd
  |succ d=>exact .fn f cs as hl fun i x a h1 h2=>ih i x a h1 h2 d (ic.1 (by simpa[closed]using hd) x (Db h1))
 |yl b x hb=>intro d hd;cases d<;>simp[closed]at hd
 |Sg=>intro _ _;exact .Sg
 |agg cs as hl _ ih=>intro d hd;cases d<;>simp[closed]at hd
 |Qc cs as hl _ ih=>intro d hd;cases d<;>simp[closed]at hd
theorem RV.mX{m:Mp}(m':Mp):∀(d:Nat){x:UV}{a:V.AV},RV m x a->Rb d x=true->RV m' x a
 |0,x,a,_,hd=>by simp[Rb]at hd
 |d+1,x,a,hx,hd=>by
  cases x with
  |agg cs=>
   cases hx with
   |agg _ as hl hr=>exact .agg cs as hl fun i x a h1 h2=>RV.mX m' d (hr i x a h1 h2) (ic.1 (by simpa[Rb]using hd) x (Db h1))
  |Qc cs=>
   cases hx with
   |Qc _ as hl hr=>exact .Qc cs as hl fun i x a h1 h2=>RV.mX m' d (hr i x a h1 h2) (ic.1 (by simpa[Rb]using hd) x (Db h1))
  |_=>exact hx.free m' 8 (by simpa[Rb]using hd)
theorem RV.Rj{m m':Mp}{φ:Nat->Option Nat}(h:∀b b',φ b=some b'->m'.ι b'=m.ι b/\m'.len b'=m.len b/\b'<m'.top):∀(d:Nat){x:UV}{a:V.AV},RV m x a->RV m' (U.Rj φ d x) a
 |0,x,a,_=> .Sb a
 |d+1,x,a,hx=>by
  cases hx with
  |Sb a=>exact .Sb a
  |bool b=>exact .bool b
  |int k n=>exact .int k n
  |str s=>exact .str s
  |Me=>exact .Me
  |ptr b c x hb=>
   simp only[U.Rj];split
   ·rename_i b' ud;exact .ptr b' c x (by rw[(h b b' ud).1];exact hb)
   ·exact .Sb _
  |Um b r c x hb hr=>
   simp only[U.Rj];split
   ·rename_i b' ud;exact .Um b' r c x (by rw[(h b b' ud).1];exact hb) (by rw[(h b b' ud).2.1];exact hr)
   ·exact .Sb _
  |Bd row Jb hl hc hr=>exact RV.free m' (.Bd row Jb hl hc hr) 1 rfl
  |Ya=>exact .Ya
  |Pd=>exact .Pd
  |sl b r n x hb hr=>
   simp only[U.Rj];split
   ·rename_i b' ud;exact .sl b' r n x (by rw[(h b b' ud).1];exact hb) (by rw[(h b b' ud).2.1];exact hr)
   ·exact .Sb _
  |Vt b r a ha=>
   simp only[U.Rj];split
   ·exact .Vt _ r a ha
   ·exact .Sb _
  |all b x hb=>
   simp only[U.Rj];split
   ·rename_i b' ud;rw[<- (h b b' ud).2.1];exact .all b' x (by rw[(h b b' ud).1];exact hb)
   ·exact .Sb _
  |Wf b a hb hl ha=>
   simp only[U.Rj];split
   ·rename_i b' ud;exact .Wf b' a (h b b' ud).2.2 (by rw[(h b b' ud).2.1];exact hl) ha
   ·exact .Sb _
  |Qp b r x hb=>
   simp only[U.Rj];split
   ·rename_i b' ud;rw[<- (h b b' ud).2.1];exact .Qp b' r x (by rw[(h b b' ud).1];exact hb)
   ·exact .Sb _
  |Ju b r a hb hl ha=>
   simp only[U.Rj];split
   ·rename_i b' ud;exact .Ju b' r a (h b b' ud).2.2 (by rw[(h b b' ud).2.1];exact hl) ha
   ·exact .Sb _
  |cq b r j c x hb hr=>
   simp only[U.Rj];split
   ·rename_i b' ud;exact .cq b' r j c x (by rw[(h b b' ud).1];exact hb) (by rw[(h b b' ud).2.1];exact hr)
   ·exact .Sb _
  |lit c l rows h1 h2 h3=>exact RV.free m' (.lit c l rows h1 h2 h3) 1 rfl
  |ri c a ha=>exact .ri c a ha
  |Ef=>exact .Ef
  |mp b x hb=>
   simp only[U.Rj];split
   ·rename_i b' ud;exact .mp b' x (by rw[(h b b' ud).1];exact hb)
   ·exact .Sb _
  |af=>exact .af
  |fn f cs as hl hr=>
   refine .fn f _ as (by simp[hl]) fun i x a h1 h2=> ?_
   rw[Wb,ia]at h1;obtain⟨y,hy,rfl⟩:=h1;exact RV.Rj h d (hr i y a hy h2)
  |yl b x hb=>
   simp only[U.Rj];split
   ·rename_i b' ud;exact .yl b' x (by rw[(h b b' ud).1];exact hb)
   ·exact .Sb _
  |Sg=>exact .Sg
  |agg cs as hl hr=>
   refine .agg _ as (by simp[hl]) fun i x a h1 h2=> ?_
   rw[Wb,ia]at h1;obtain⟨y,hy,rfl⟩:=h1;exact RV.Rj h d (hr i y a hy h2)
  |Qc cs as hl hr=>
   refine .Qc _ as (by simp[hl]) fun i x a h1 h2=> ?_
   rw[Wb,ia]at h1;obtain⟨y,hy,rfl⟩:=h1;exact RV.Rj h d (hr i y a hy h2)
variable [TB:ZC]
def ek(m:Mp)(z n:Nat)(f:Nat->List UV)(rows:List (List V.AV)):Prop:=
 (∀i,i<n->(f i).length=z/\∀x∈f i,closed 8 x=true)/\(∀(i:Nat)(row:List V.AV),i<n->rows[i]?=some row->row.length=z)/\
 ∀(i:Nat)(row:List V.AV)(c:Nat)(x:UV)(a:V.AV),i<n->rows[i]?=some row->(f i)[c]?=some x->row[c]?=some a->RV m x a
def Vh:(k:KT)->od k->V.AV
 | .int k,i=> .int k i
 | .str,s=> .str s
def MR(k:KT)(m:Mp):List (od k×UV)->List (V.AV×V.AV)->Prop
 |[],[]=>True
 |(i,v)::es,(key,a)::sd=>key=Vh k i/\RV m v a/\Rb 8 v=true/\MR k m es sd
 |_,_=>False
def ak{k:KT}(g:Bool)(c:CT)(l:List (od k×Fb c)):List (od k×UV):=l.map fun p=>(p.1,valOf g c p.2)
def Ul(m:Mp)(Hv:V.AH)(o:Option Nat)(c:CT)(l:List (Fb c))(a:V.AV):Prop:=
 (l.length=0/\o=none/\(a= .Ya\/a= .Pd))\/
  ∃y rows ty,o=some y/\a= .sl y 0 l.length/\Hv.bl[y]?=some (.cells rows (width c) ty)/\l.length<=rows.length/\ek m (width c) l.length (vw c l) rows
def RB(m:Mp)(Hv:V.AH)(b:Nat):UB->Prop
 | .dead=>True
 | .Za row=>∃x Jb ty,m.ι b 0=some x/\Hv.bl[x]?=some (.cells [Jb] Jb.length ty)/\RL m row Jb
 | .cells c l=>m.len b 0=l.length/\((l.length=0/\m.ι b 0=none)\/∃x rows ty,m.ι b 0=some x/\Hv.bl[x]?=some (.cells rows (width c) ty)/\l.length<=rows.length/\ek m (width c) l.length (vw c l) rows)
 | .deep c l=>m.len b 0=l.length/\(∀r,m.len b (r+1)=(l.getD r []).length/\(l.length<=r->m.ι b (r+1)=none))/\((l.length=0/\m.ι b 0=none)\/∃x rows ty,m.ι b 0=some x/\Hv.bl[x]?=some (.cells rows 1 ty)/\l.length<=rows.length/\
  ∀r,r<l.length->∃a,rows[r]?=some [a]/\Ul m Hv (m.ι b (r+1)) c (l.getD r []) a)
 | .uk k es=>∃x sd,m.ι b 0=some x/\Hv.bl[x]?=some (.map sd)/\MR k m es sd
 | .vh k g c l=>∃x sd,m.ι b 0=some x/\Hv.bl[x]?=some (.map sd)/\MR k m (ak g c l) sd
 | .loop id env st pe=>∃x pn,m.ι b 0=some x/\Hv.bl[x]?=some (.loop (TB.rf id).n (ua (TB.rf id).n) pn (TB.rf id).ps (TB.rf id).assign (TB.rf id).body st pe.jump)/\∀t,match get (Ce env) t,V.get (V.Ce pn) t with
   | .v y,.v a=>RV m y a
   |_,_=>False
 | .Mm q=>∃x p q',m.ι b 0=some x/\Hv.bl[x]?=some (.cells [[p,q']] 2 (some (TB.bT,2)))/\(p= .Me\/p= .ptr x 0 0)/\RV m q q'/\q'≠ .Pd
 | .Rp s=>m.len b 0=s.size/\((s.size=0/\m.ι b 0=none)\/∃x,m.ι b 0=some x/\Hv.bl[x]?=some (.cells (V.jc s) 1 (some (TB.uT,1)))/\0<s.size/\s.size<=70368744177664)
def live(H:UH)(b:Nat):Prop:=∃x,H.bl[b]?=some x/\Xd x=true
structure RH(m:Mp)(H:UH)(Hv:V.AH):Prop where
 He:∀b{s}x,m.ι b s=some x->b<H.bl.length/\x<Hv.bl.length
 Tc:∀b y,H.bl[b]?=some y->RB m Hv b y
 Pn:∀b b'{s s'}x,live H b->live H b'->m.ι b s=some x->m.ι b' s'=some x->b=b'/\s=s'
 wm:∀b{s}x,m.ι b s=some x->H.wm<=b->Hv.wm<=x
 top:Hv.wm<=Hv.bl.length
 len:m.top=H.bl.length
theorem RH.inj{m:Mp}{H:UH}{Hv:V.AH}(h:RH m H Hv)(b b':Nat){s s':Nat}(x:Nat)(h1:live H b)(h2:live H b')(h3:m.ι b s=some x)(h4:m.ι b' s'=some x):b=b':=(h.Pn b b' x h1 h2 h3 h4).1
def ZU(n:Nat)(m m':Mp):Prop:=n<=m'.top/\∀b,b<n->m'.ι b=m.ι b/\m'.len b=m.len b
structure Yj(n:Nat)(m:Mp)(Hv:V.AH)(m':Mp)(Lc:V.AH):Prop where
 Pk:ZU n m m'
 stay:∀x,x<Hv.bl.length->(∀b s,m.ι b s≠some x)->Lc.bl[x]?=Hv.bl[x]?
 new:∀b{s}x,m'.ι b s=some x->(∃b0 s0,m.ι b0 s0=some x)\/Hv.bl.length<=x
 len:Hv.bl.length<=Lc.bl.length
 wm:Lc.wm=Hv.wm
theorem ZU.refl{n:Nat}{m:Mp}(h:n<=m.top):ZU n m m:=⟨h,fun _ _=>⟨rfl,rfl⟩⟩
theorem ZU.trans{n n':Nat}{m m1 m2:Mp}(h:ZU n m m1)(h':ZU n' m1 m2)(hn:n<=n'):ZU n m m2:=⟨Gb hn h'.1,fun b hb=>⟨(h'.2 b (by omega)).1.trans (h.2 b hb).1,(h'.2 b (by omega)).2.trans (h.2 b hb).2⟩⟩
theorem ZU.less{n n':Nat}{m m1:Mp}(h:ZU n m m1)(hn:n'<=n):ZU n' m m1:=⟨Gb hn h.1,fun b hb=>h.2 b (by omega)⟩
theorem Yj.refl{n:Nat}{m:Mp}(Hv:V.AH)(hn:n<=m.top):Yj n m Hv m Hv:=⟨.refl hn,fun _ _ _=>rfl,fun b _ x h=> .inl ⟨b,_,h⟩,va _,rfl⟩
theorem Yj.less{n n':Nat}{m m1:Mp}{H H1:V.AH}(h:Yj n m H m1 H1)(hn:n'<=n):Yj n' m H m1 H1:=⟨h.Pk.less hn,h.stay,h.new,h.len,h.wm⟩
theorem Yj.trans{n n':Nat}{m m1 m2:Mp}{H H1 H2:V.AH}(h:Yj n m H m1 H1)(h':Yj n' m1 H1 m2 H2)(hn:n<=n'):Yj n m H m2 H2 where
 Pk:=h.Pk.trans h'.Pk hn
 stay x hx hn:=(h'.stay x (yb hx h.len) fun b s hb=>by
  rcases h.new b x hb with⟨b0,s0,h0⟩|h0
  ·exact hn b0 s0 h0
  ·omega).trans (h.stay x hx hn)
 new b s x hb:=by
  rcases h'.new b x hb with⟨b0,s0,h0⟩|h0
  ·exact h.new b0 x h0
  ·exact .inr (Gb h.len h0)
 len:=Gb h.len h'.len
 wm:=h'.wm.trans h.wm
def RS(m:Mp)(φ:Nat->Option Nat):US->V.SV->Prop
 | .v .Sb,_=>True
 | .v x,.v a=>RV m x a
 | .loc i c,.loc j c'=>φ i=some j/\c'=c
 |_,_=>False
structure RF(m:Mp)(φ:Nat->Option Nat)(F:List (List UV))(Fv:List (List V.AV)):Prop where
 He:∀i j,φ i=some j->i<F.length/\j<Fv.length
 row:∀i row,F[i]?=some row->∃j Jb,φ i=some j/\Fv[j]?=some Jb/\RL m row Jb
 inj:∀i i' j,φ i=some j->φ i'=some j->i=i'
def RE(m:Mp)(φ:Nat->Option Nat)(e:List (Nat×US))(ev:List (Nat×V.SV)):Prop:=∀t,RS m φ (get e t) (V.get ev t)
structure Om(m:Mp)(φ:Nat->Option Nat)(s:St)(sv:V.S):Prop where
 h:RH m s.H sv.H
 f:RF m φ s.F sv.F
 e:RE m φ s.e sv.e
 b:s.base<=s.H.bl.length
end Go.U
namespace Go.U
open Go
variable [TB:ZC]
theorem Xa{α:Type}{l:List α}{i:Nat}{x:α}(h:l[i]?=some x):i<l.length:=by
 rcases Ub i l.length with h'|h'
 ·exact h'
 ·simp[Ab h']at h
section
variable {A:V.Eh}{Ra:Nat->Option (List UV)}{m:Mp}{φ:Nat->Option Nat}
def Fe(A:V.Eh)(Ra:Nat->Option (List UV)):Prop:=∀i row,Ra i=some row->∃Jb,A.Ra i=some Jb/\∀m,RV m (.Bd row) (.Bd Jb)
theorem Gy{v:Value}{x:UV}(h:zj v=some x):∃a,V.Ae v=some a/\∀m,RV m x a:=by
 unfold zj at h;split at h<;>simp at h<;>subst h
 ·exact⟨_,rfl,fun _=> .bool _⟩
 ·exact⟨_,rfl,fun _=> .int _ _⟩
 ·exact⟨_,rfl,fun _=> .str _⟩
 ·exact⟨_,rfl,fun _=> .Me⟩
 ·exact⟨_,rfl,fun _=> .Ya⟩
 ·exact⟨_,rfl,fun _=> .Ef⟩
 ·exact⟨_,rfl,fun _=> .af⟩
 ·exact⟨_,rfl,fun _=> .Sg⟩
theorem zI{v:Value}{x:UV}(h:zj v=some x):closed 8 x=true:=by
 unfold zj at h;split at h<;>simp at h<;>subst h<;>rfl
theorem qE{v:Value}{x:UV}(h:zj v=some x):Rb 8 x=true:=by
 unfold zj at h;split at h<;>simp at h<;>subst h<;>rfl
theorem RL.nil{m:Mp}:RL m [] []:=⟨rfl,fun i x a h=>by simp at h⟩
theorem RL.cons{m:Mp}{x:UV}{a:V.AV}{xs:List UV}{as:List V.AV}(h:RV m x a)(hs:RL m xs as):RL m (x::xs) (a::as):=
 ⟨by simp[hs.1],fun i y b h1 h2=>by
  cases i with
  |zero=>simp at h1 h2;subst h1;subst h2;exact h
  |succ i=>exact hs.2 i y b (by simpa using h1) (by simpa using h2)⟩
theorem RL.get{m:Mp}{xs:List UV}{as:List V.AV}(h:RL m xs as){i:Nat}{x:UV}(hx:xs[i]?=some x):∃a,as[i]?=some a/\RV m x a:=by
 have:=Xa hx;have ha:=Aa (l:=as) (i:=i) (by rw[h.1];exact this);exact⟨_,ha,h.2 i x _ hx ha⟩
theorem RL.drop{m:Mp}{xs:List UV}{as:List V.AV}(h:RL m xs as)(n:Nat):RL m (xs.drop n) (as.drop n):=
 ⟨by simp[h.1],fun i x a h1 h2=>h.2 (n+i) x a (by simpa[Ec]using h1) (by simpa[Ec]using h2)⟩
theorem RL.take{m:Mp}{xs:List UV}{as:List V.AV}(h:RL m xs as)(n:Nat):RL m (xs.take n) (as.take n):=
 ⟨by simp[h.1],fun i x a h1 h2=>by
  rw[Cb]at h1 h2;split at h1
  ·rename_i hi;rw[if_pos hi]at h2;exact h.2 i x a h1 h2
  ·simp at h1⟩
theorem RL.append{m:Mp}{xs ys:List UV}{as bs:List V.AV}(h:RL m xs as)(h':RL m ys bs):RL m (xs++ys) (as++bs):=
 ⟨by simp[h.1,h'.1],fun i x a h1 h2=>by
  rcases Ub i xs.length with hi|hi
  ·rw[La hi]at h1;rw[La (by rw[h.1];exact hi)]at h2;exact h.2 i x a h1 h2
  ·rw[Qa hi]at h1;rw[Qa (by rw[h.1];exact hi),h.1]at h2;exact h'.2 _ x a h1 h2⟩
theorem RL.set{m:Mp}{xs:List UV}{as:List V.AV}(h:RL m xs as)(i:Nat){x:UV}{a:V.AV}(hx:RV m x a):RL m (xs.set i x) (as.set i a):=
 ⟨by simp[h.1],fun j y b h1 h2=>by
  rw[Ob]at h1 h2;split at h1
  ·rename_i e;rw[if_pos e]at h2;split at h1
   ·rename_i hl;rw[if_pos (by rw[h.1];exact hl)]at h2;simp at h1 h2;subst h1;subst h2;exact hx
   ·simp at h1
  ·rename_i e;rw[if_neg e]at h2;exact h.2 j y b h1 h2⟩
theorem RL.free{m:Mp}(m':Mp){xs:List UV}{as:List V.AV}(h:RL m xs as)(hc:∀x∈xs,closed 8 x=true):RL m' xs as:=
 ⟨h.1,fun i x a h1 h2=>(h.2 i x a h1 h2).free m' 8 (hc x (Db h1))⟩
theorem Tl:∀{vs:List Value}{xs:List UV},Pc vs=some xs->∃ as,V.Pc vs=some as/\(∀m,RL m xs as)/\∀x∈xs,closed 8 x=true
 |[],xs,h=>by simp[Pc]at h;subst h;exact⟨[],rfl,fun _=> .nil,fun x hx=>by simp at hx⟩
 |v::vs,xs,h=>by
  simp only[Pc,aa]at h;obtain⟨x,hx,ys,Yx,h⟩:=h;simp at h;subst h;obtain⟨a,h1,h2⟩:=Gy hx;obtain⟨as,h3,h4,h5⟩:=Tl Yx;refine⟨a::as,by simp[V.Pc,h1,h3],fun m=> .cons (h2 m) (h4 m),fun y hy=> ?_⟩;rcases Vb.1 hy with rfl|hy
  ·exact zI hx
  ·exact h5 y hy
theorem jq{t:TypeId}{z:List UV}(h:zero A t=some z):∃z',V.zero A t=some z'/\(∀m,RL m z z')/\∀x∈z,closed 8 x=true:=by
 unfold zero at h;unfold V.zero;split at h
 ·rename_i v hv;rw[hv];exact Tl h
 ·simp at h
theorem oR{t:TypeId}{z:UV}(h:zeroV A t=some z):∃z',V.zeroV A t=some z'/\(∀m,RV m z z')/\Rb 8 z=true:=by
 unfold zeroV at h;unfold V.zeroV;split at h
 ·rename_i cs hv;rw[hv];simp only[ia]at h;obtain⟨xs,Hs,rfl⟩:=h;unfold Pc at Hs;have Yaf:Pc cs.toList=some xs:=by unfold Pc;exact Hs
  obtain⟨as,h1,h2,h3⟩:=Tl Yaf;refine⟨.agg as,by simp[h1],fun m=> .agg _ _ (h2 m).1 (h2 m).2,?_⟩;simp only[Rb,ic];intro x hx;have h8:=h3 x hx;obtain⟨i,hi⟩:=je hx;have Wz:∀{vs:List Value}{xs:List UV},Pc vs=some xs->∀x∈xs,Rb 7 x=true:=by
   intro vs;induction vs with
   |nil=>intro xs h x hx;simp[Pc]at h;subst h;simp at hx
   |cons v vs ih=>
    intro xs h x hx;simp only[Pc,aa]at h;obtain⟨y,hy,ys,Yx,h⟩:=h;simp at h;subst h;rcases Vb.1 hx with rfl|hx
    ·unfold zj at hy;split at hy<;>simp at hy<;>subst hy<;>rfl
    ·exact ih Yx x hx
  exact Wz Yaf x hx
 ·rename_i v Sc hv;obtain⟨a,h1,h2⟩:=Gy h;refine⟨a,?_,h2,qE h⟩;rw[hv];cases v<;>first|exact h1|(exfalso;exact Sc _ rfl)
 ·simp at h
theorem zd(hg:Fe A Ra){e:List (Nat×US)}{ev:List (Nat×V.SV)}{x:Operand}{v:US}(h:operand Ra e x=some v)(he:RE m φ e ev):∃vv,V.operand A ev x=some vv/\RS m φ v vv:=by
 have up:∀{y:UV}{a:V.AV},RV m y a->RS m φ (.v y) (.v a):=fun{y a}h=>by cases y<;>first|trivial|exact h
 cases x with
 |tmp t=>simp[operand]at h;subst h;exact⟨_,rfl,he t⟩
 |const c=>
  simp only[operand,ia]at h;obtain⟨y,hy,rfl⟩:=h;obtain⟨a,h1,h2⟩:=Gy hy;exact⟨.v a,by simp[V.operand,h1],up (h2 m)⟩
 |global i=>
  simp only[operand,ia]at h;obtain⟨row,hr,rfl⟩:=h;obtain⟨Jb,h1,h2⟩:=hg i row hr;exact⟨.v (.Bd Jb),by simp[V.operand,h1],up (h2 m)⟩
 |func f=>
  simp[operand]at h;subst h;exact⟨.v (.fn f []),rfl,up (.fn f [] [] rfl fun i x a h=>by simp at h)⟩
theorem RS.val{x:UV}{vv:V.SV}(h:RS m φ (.v x) vv)(Sc:x≠ .Sb):∃a,vv= .v a/\RV m x a:=by
 cases vv with
 |v a=>cases x<;>first|exact absurd rfl Sc|exact⟨a,rfl,h⟩
 |loc i c=>cases x<;>first|exact absurd rfl Sc|exact h.elim
theorem RV.rs{x:UV}{a:V.AV}(h:RV m x a):RS m φ (.v x) (.v a):=by cases x<;>first|trivial|exact h
theorem XA{e:List (Nat×US)}{x:Operand}{a:UV}(h:val Ra e x=some a):operand Ra e x=some (.v a)/\a≠ .Sb:=by
 unfold val at h;split at h
 ·simp at h
 ·rename_i y Sc hy;simp at h;subst h;exact⟨hy,Sc⟩
 ·simp at h
theorem Jc(hg:Fe A Ra){e:List (Nat×US)}{ev:List (Nat×V.SV)}{x:Operand}{a:UV}(h:val Ra e x=some a)(he:RE m φ e ev):∃a',V.val A ev x=some a'/\RV m a a':=by
 obtain⟨h1,h2⟩:=XA h;obtain⟨vv,h3,h4⟩:=zd hg h1 he;obtain⟨a',rfl,h5⟩:=h4.val h2;exact⟨a',by simp[V.val,h3],h5⟩
theorem mq(hg:Fe A Ra){e:List (Nat×US)}{ev:List (Nat×V.SV)}(he:RE m φ e ev):∀{l:List Operand}{as:List UV},dh Ra e l=some as->∃tn,V.dh A ev l=some tn/\RL m as tn
 |[],as,h=>by simp[dh]at h;subst h;exact⟨[],rfl,.nil⟩
 |x::l,as,h=>by
  simp only[dh,aa]at h;obtain⟨a,ha,ys,Yx,h⟩:=h;simp at h;subst h;obtain⟨a',h1,h2⟩:=Jc hg ha he;obtain⟨tn,h3,h4⟩:=mq hg he Yx;exact⟨a'::tn,by simp[V.dh,h1,h3],.cons h2 h4⟩
def RP(m:Mp)(ps:List (Nat×UV))(qs:List (Nat×V.AV)):Prop:=qs.map (·.1)=ps.map (·.1)/\RL m (ps.map (·.2)) (qs.map (·.2))
theorem Xr(hg:Fe A Ra){e:List (Nat×US)}{ev:List (Nat×V.SV)}(he:RE m φ e ev):∀{l:List (Nat×Operand)}{ps:List (Nat×UV)},parts Ra e l=some ps->∃qs,V.parts A ev l=some qs/\RP m ps qs
 |[],ps,h=>by simp[parts]at h;subst h;exact⟨[],rfl,rfl,.nil⟩
 |(i,x)::l,ps,h=>by
  simp only[parts,aa]at h;obtain⟨a,ha,ys,Yx,h⟩:=h;simp at h;subst h;obtain⟨a',h1,h2⟩:=Jc hg ha he;obtain⟨qs,h3,h4,h5⟩:=Xr hg he Yx;exact⟨(i,a')::qs,by simp[V.parts,h1,h3],by simp[h4],.cons h2 h5⟩
theorem Dt{x:UV}{a:V.AV}{cs:List UV}(h:x.cells?=some cs)(hx:RV m x a):∃Oh,a.cells?=some Oh/\RL m cs Oh:=by
 have one:∀{y:UV}{b:V.AV},RV m y b->cs=[y]->b.cells?=some [b]->∃Oh,b.cells?=some Oh/\RL m cs Oh:=fun{y b}h1 h2 h3=>⟨_,h3,by rw[h2];exact .cons h1 .nil⟩
 cases hx with
 |Sb a=>simp[UV.cells?]at h
 |Qc cs as hl hr=>simp[UV.cells?]at h
 |agg cs as hl hr=>simp[UV.cells?]at h;subst h;exact⟨as,rfl,hl,hr⟩
 |bool b=>simp[UV.cells?]at h;exact one (.bool b) h.symm rfl
 |int k n=>simp[UV.cells?]at h;exact one (.int k n) h.symm rfl
 |str s=>simp[UV.cells?]at h;exact one (.str s) h.symm rfl
 |Me=>simp[UV.cells?]at h;exact one .Me h.symm rfl
 |ptr b c x hb=>simp[UV.cells?]at h;exact one (.ptr b c x hb) h.symm rfl
 |Um b r c x hb hr=>simp[UV.cells?]at h;exact one (.Um b r c x hb hr) h.symm rfl
 |Bd row Jb hl hc hr=>simp[UV.cells?]at h;exact one (.Bd row Jb hl hc hr) h.symm rfl
 |Ya=>simp[UV.cells?]at h;exact one .Ya h.symm rfl
 |Pd=>simp[UV.cells?]at h;exact one .Pd h.symm rfl
 |sl b r n x hb hr=>simp[UV.cells?]at h;exact one (.sl b r n x hb hr) h.symm rfl
 |Vt b r a ha=>simp[UV.cells?]at h;exact one (.Vt b r a ha) h.symm (by rcases ha with rfl|rfl<;>rfl)
 |all b x hb=>simp[UV.cells?]at h;exact one (.all b x hb) h.symm rfl
 |Wf b a hb hl ha=>simp[UV.cells?]at h;exact one (.Wf b a hb hl ha) h.symm (by rcases ha with rfl|rfl<;>rfl)
 |Qp b r x hb=>simp[UV.cells?]at h;exact one (.Qp b r x hb) h.symm rfl
 |Ju b r a hb hl ha=>simp[UV.cells?]at h;exact one (.Ju b r a hb hl ha) h.symm (by rcases ha with rfl|rfl<;>rfl)
 |cq b r j c x hb hr=>simp[UV.cells?]at h;exact one (.cq b r j c x hb hr) h.symm rfl
 |lit c l rows h1 h2 h3=>simp[UV.cells?]at h;exact one (.lit c l rows h1 h2 h3) h.symm rfl
 |ri c a ha=>simp[UV.cells?]at h;exact one (.ri c a ha) h.symm (by rcases ha with rfl|rfl<;>rfl)
 |Ef=>simp[UV.cells?]at h;exact one .Ef h.symm rfl
 |mp b x hb=>simp[UV.cells?]at h;exact one (.mp b x hb) h.symm rfl
 |af=>simp[UV.cells?]at h;exact one .af h.symm rfl
 |fn f Oh as hl hr=>simp[UV.cells?]at h;exact one (.fn f Oh as hl hr) h.symm rfl
 |yl b x hb=>simp[UV.cells?]at h;exact one (.yl b x hb) h.symm rfl
 |Sg=>simp[UV.cells?]at h;exact one .Sg h.symm rfl
theorem og{t:TypeId}{row:List UV}{Jb:List V.AV}{c:Nat}{x:UV}(h:part A t row c=some x)(hr:RL m row Jb):∃a,V.part A t Jb c=some a/\RV m x a:=by
 unfold part at h;unfold V.part;cases ha:V.isAgg A t with
 |none=>simp[ha]at h
 |some b=>
  simp only[ha,ga]at h ⊢;cases b with
  |true=>
   simp only[aa]at h ⊢;obtain⟨n,hn,h⟩:=h;split at h
   ·rename_i hle;simp at h;subst h;refine⟨.agg ((Jb.drop c).take n),⟨n,hn,by rw[if_pos (by rw[hr.1];exact hle)]⟩,.agg _ _ ((hr.drop c).take n).1 ((hr.drop c).take n).2⟩
   ·simp at h
  |false=>exact hr.get h
theorem Wk{row new zf:List UV}{Jb Kaf:List V.AV}{c:Nat}(h:yf row c new=some zf)(hr:RL m row Jb)(hn:RL m new Kaf):∃Hg,V.yf Jb c Kaf=some Hg/\RL m zf Hg/\zf.length=row.length:=by
 unfold yf at h;unfold V.yf;split at h
 ·rename_i hle;simp at h;subst h;refine⟨_,by rw[if_pos (by rw[hn.1,hr.1];exact hle)],?_,by simp;omega⟩;rw[hn.1];exact(hr.take c).append (hn.append (hr.drop _))
 ·simp at h
theorem RL.ji{x:UV}{xs:List UV}{as:List V.AV}(h:RL m (x::xs) as):∃a tn,as=a::tn/\RV m x a/\RL m xs tn:=by
 cases as with
 |nil=>have:=h.1;simp at this
 |cons a as=>exact⟨a,as,rfl,h.2 0 x a rfl rfl,by have:=h.1;simpa using this,fun i y b k1 k2=>h.2 (i+1) y b (by simpa using k1) (by simpa using k2)⟩
theorem wI:∀(c:CT)(cs:List UV)(x:Fb c)(r:List UV),dec c cs=some (x,r)->∀{as:List V.AV},RL m cs as->∃as1 as2,as=as1++as2/\RL m (enc c x) as1/\RL m r as2
 | .bool,[],x,r,h,as,ha=>by simp[dec]at h
 | .bool,v::cs,x,r,h,as,ha=>by
  cases v<;>simp[dec]at h
  obtain⟨rfl,rfl⟩:=h;obtain⟨a,tn,rfl,h1,h2⟩:=ha.ji;exact⟨[a],tn,rfl,.cons h1 .nil,h2⟩
 | .int k,[],x,r,h,as,ha=>by simp[dec]at h
 | .int k,v::cs,x,r,h,as,ha=>by
  cases v<;>simp[dec]at h
  obtain⟨rfl,rfl,rfl⟩:=h;obtain⟨a,tn,rfl,h1,h2⟩:=ha.ji;exact⟨[a],tn,rfl,.cons h1 .nil,h2⟩
 | .str,[],x,r,h,as,ha=>by simp[dec]at h
 | .str,v::cs,x,r,h,as,ha=>by
  cases v<;>simp[dec]at h
  obtain⟨rfl,rfl⟩:=h;obtain⟨a,tn,rfl,h1,h2⟩:=ha.ji;exact⟨[a],tn,rfl,.cons h1 .nil,h2⟩
 | .slice c,[],x,r,h,as,ha=>by simp[dec]at h
 | .slice c,v::cs,x,r,h,as,ha=>by
  obtain⟨a,tn,rfl,h1,h2⟩:=ha.ji;have fin:∀{x':List (Fb c)},some (x',cs)=some (x,r)->RV m (.lit c x') a->∃as1 as2,a::tn=as1++as2/\RL m (enc (.slice c) x) as1/\RL m r as2:=fun{x'}he hv=>by
   injection he with he
   injection he with e1 e2
   subst e1;subst e2;exact⟨[a],tn,rfl,.cons hv .nil,h2⟩
  cases v with
  |lit c' l=>
   have h:(if h:c'=c then some ((h ▸ l:List (Fb c)),cs)else none)=some (x,r):=h;split at h
   ·rename_i hc;subst hc;exact fin h h1
   ·simp at h
  |Ya=>exact fin h (by cases h1;exact .ri c _ (.inl rfl))
  |Pd=>exact fin h (by cases h1;exact .ri c _ (.inr rfl))
  |_=>simp[dec]at h
 | .pair a b,cs,x,r,h,as,ha=>by
  simp only[dec,aa]at h;obtain⟨⟨x1,r1⟩,h1,⟨x2,r2⟩,h2,h⟩:=h;simp at h;obtain⟨rfl,rfl⟩:=h;obtain⟨as1,as2,rfl,k1,k2⟩:=wI a cs x1 r1 h1 ha;obtain⟨as3,as4,rfl,k3,k4⟩:=wI b r1 x2 _ h2 k2;exact⟨as1++as3,as4,(td ..).symm,k1.append k3,k4⟩
theorem fo{c:CT}{cs:List UV}{x:Fb c}(h:xI c cs=some x){as:List V.AV}(ha:RL m cs as):RL m (enc c x) as:=by
 unfold xI at h;split at h
 ·rename_i y hy;simp at h;subst h;obtain⟨as1,as2,rfl,k1,k2⟩:=wI c cs y [] hy ha;have:as2=[]:=by have:=k2.1;simpa using this
  subst this
  simpa using k1
 ·simp at h
theorem mL{c:CT}:∀{rs:List (List UV)}{l:List (Fb c)},o3 c rs=some l->l.length=rs.length/\∀(i:Nat)(r:List UV),rs[i]?=some r->∀{as:List V.AV},RL m r as->RL m (vw c l i) as
 |[],l,h=>by simp[o3]at h;subst h;exact⟨rfl,fun i r h=>by simp at h⟩
 |r::rs,l,h=>by
  simp only[o3,aa]at h;obtain⟨x,hx,l',hl,h⟩:=h;simp at h;subst h;obtain⟨h1,h2⟩:=mL hl;refine⟨by simp[h1],fun i r' hi as ha=> ?_⟩;cases i with
  |zero=>simp at hi;subst hi;exact fo hx ha
  |succ i=>exact h2 i r' (by simpa using hi) ha
end
end Go.U
namespace Go.U
open Go
variable [TB:ZC]
def Mp.Zi(m:Mp)(b:Nat)(f:Nat->Option Nat)(g:Nat->Nat):Mp:={ ι:=fun i=>if i=b then f else m.ι i,len:=fun i=>if i=b then g else m.len i,top:=b+1 }
def f0(x:Option Nat)(s:Nat):Option Nat:=if s=0 then x else none
theorem IA{x:Option Nat}{s xv:Nat}(h:f0 x s=some xv):s=0/\x=some xv:=by
 unfold f0 at h;split at h
 ·rename_i e;exact⟨e,h⟩
 ·simp at h
def Mp.add(m:Mp)(b:Nat)(x:Option Nat)(n:Nat):Mp:=m.Zi b (f0 x) fun _=>n
theorem mh(m:Mp)(b:Nat)(f:Nat->Option Nat)(g:Nat->Nat):(m.Zi b f g).ι b=f:=by simp[Mp.Zi]
theorem Gr(m:Mp)(b:Nat)(f:Nat->Option Nat)(g:Nat->Nat):(m.Zi b f g).len b=g:=by simp[Mp.Zi]
theorem jf(m:Mp){b b':Nat}(f:Nat->Option Nat)(g:Nat->Nat)(h:b'≠b):(m.Zi b f g).ι b'=m.ι b':=by simp[Mp.Zi,h]
theorem Nj(m:Mp){b b':Nat}(f:Nat->Option Nat)(g:Nat->Nat)(h:b'≠b):(m.Zi b f g).len b'=m.len b':=by simp[Mp.Zi,h]
theorem ae(m:Mp)(b:Nat)(x:Option Nat)(n:Nat):(m.add b x n).ι b 0=x:=by rw[Mp.add,mh];rfl
theorem Ti{m:Mp}{b:Nat}{x:Option Nat}{n s xv:Nat}(h:(m.add b x n).ι b s=some xv):s=0/\x=some xv:=by rw[Mp.add,mh]at h;exact IA h
theorem yd(m:Mp)(b:Nat)(x:Option Nat)(n:Nat):(m.add b x n).len b 0=n:=by rw[Mp.add,Gr]
theorem Cf(m:Mp){b b':Nat}(x:Option Nat)(n:Nat)(h:b'≠b):(m.add b x n).ι b'=m.ι b':=jf m _ _ h
theorem sO(m:Mp){b b':Nat}(x:Option Nat)(n:Nat)(h:b'≠b):(m.add b x n).len b'=m.len b':=Nj m _ _ h
section
variable {m:Mp}{H:UH}{Hv Lc:V.AH}
theorem Ac(Hv:V.AH)(x x':Nat)(y:V.AB):(V.Sa Hv x y).bl[x']?=if x=x' then(if x<Hv.bl.length then some y else none)else Hv.bl[x']?:=by
 simp only[V.Sa,Ob]
theorem Vu(H:UH)(b b':Nat)(y:UB):(Sa H b y).bl[b']?=if b=b' then(if b<H.bl.length then some y else none)else H.bl[b']?:=by
 simp only[Sa,Ob]
theorem EE(H:UH)(y:UB)(b:Nat):(push H y).bl[b]?=if b<H.bl.length then H.bl[b]? else if b=H.bl.length then some y else none:=by
 simp only[push];rcases Nat.lt_trichotomy b H.bl.length with h|h|h
 ·simp[h,La]
 ·subst h;simp
 ·rw[Qa (by omega),if_neg (by omega),if_neg (by omega)];exact Ab (by simp;omega)
theorem Ie(H:V.AH)(y:V.AB)(b:Nat):(V.push H y).bl[b]?=if b<H.bl.length then H.bl[b]? else if b=H.bl.length then some y else none:=by
 simp only[V.push];rcases Nat.lt_trichotomy b H.bl.length with h|h|h
 ·simp[h,La]
 ·subst h;simp
 ·rw[Qa (by omega),if_neg (by omega),if_neg (by omega)];exact Ab (by simp;omega)
theorem MR.mono{k:KT}{m m':Mp}(hle:m.Le m'):∀{es:List (od k×UV)}{sd:List (V.AV×V.AV)},MR k m es sd->MR k m' es sd
 |[],[],_=>trivial
 |(_,_)::_,(_,_)::_,h=>⟨h.1,h.2.1.mono hle,h.2.2.1,h.2.2.2.mono hle⟩
 |[],_::_,h=>h.elim
 |_::_,[],h=>h.elim
theorem Ul.keep{m m':Mp}{o:Option Nat}{c:CT}{l:List (Fb c)}{a:V.AV}(h:Ul m Hv o c l a)(hf:∀x y,closed 8 x=true->RV m x y->RV m' x y)(dc:∀x,o=some x->Lc.bl[x]?=Hv.bl[x]?):Ul m' Lc o c l a:=by
 rcases h with⟨h1,h2,h3⟩|⟨y,rows,ty,h1,h2,h3,h4,h5,h6,h7⟩
 ·exact .inl ⟨h1,h2,h3⟩
 ·exact .inr ⟨y,rows,ty,h1,h2,by rw[dc y h1];exact h3,h4,h5,h6,fun i row c y a k0 k1 k2 k3=>hf y a ((h5 i k0).2 y (Db k2)) (h7 i row c y a k0 k1 k2 k3)⟩
theorem RB.keep{m m':Mp}{b:Nat}{y:UB}(h:RB m Hv b y)(hle:m.Le m')(Lp:m'.ι b=m.ι b)(hl:m'.len b=m.len b)(dc:Xd y=true->∀{s}x,m.ι b s=some x->Lc.bl[x]?=Hv.bl[x]?):RB m' Lc b y:=by
 cases y with
 |dead=>trivial
 |Za row=>
  obtain⟨x,Jb,ty,h1,h2,h3⟩:=h;exact⟨x,Jb,ty,by rw[Lp];exact h1,by rw[dc rfl x h1];exact h2,h3.mono hle⟩
 |Mm q=>
  obtain⟨x,p,q',h1,h2,h3,h4,h5⟩:=h;exact⟨x,p,q',by rw[Lp];exact h1,by rw[dc rfl x h1];exact h2,h3,h4.mono hle,h5⟩
 |Rp s=>
  obtain⟨h1,h2⟩:=h;refine⟨by rw[hl];exact h1,?_⟩;rcases h2 with⟨h2,h3⟩|⟨x,h2,h3,h4⟩
  ·exact .inl ⟨h2,by rw[Lp];exact h3⟩
  ·exact .inr ⟨x,by rw[Lp];exact h2,by rw[dc rfl x h2];exact h3,h4⟩
 |cells c l=>
  obtain⟨h1,h2⟩:=h;refine⟨by rw[hl];exact h1,?_⟩;rcases h2 with⟨h2,h3⟩|⟨x,rows,ty,h2,h3,h4,h5,h6,h7⟩
  ·exact .inl ⟨h2,by rw[Lp];exact h3⟩
  ·exact .inr ⟨x,rows,ty,by rw[Lp];exact h2,by rw[dc rfl x h2];exact h3,h4,h5,h6,fun i row c y a k0 k1 k2 k3=>(h7 i row c y a k0 k1 k2 k3).mono hle⟩
 |deep c l=>
  obtain⟨h1,h0,h2⟩:=h;refine⟨by rw[hl];exact h1,fun r=>by rw[hl,Lp];exact h0 r,?_⟩;rcases h2 with⟨h2,h3⟩|⟨x,rows,ty,h2,h3,h4,h5⟩
  ·exact .inl ⟨h2,by rw[Lp];exact h3⟩
  ·refine .inr ⟨x,rows,ty,by rw[Lp];exact h2,by rw[dc rfl x h2];exact h3,h4,fun r hr=> ?_⟩;obtain⟨a,k1,k2⟩:=h5 r hr;rw[Lp];exact⟨a,k1,k2.keep (fun _ _ _ h=>h.mono hle) (fun x hx=>dc rfl x hx)⟩
 |uk k es=>
  obtain⟨x,sd,h1,h2,h3⟩:=h;exact⟨x,sd,by rw[Lp];exact h1,by rw[dc rfl x h1];exact h2,h3.mono hle⟩
 |vh k g c l=>
  obtain⟨x,sd,h1,h2,h3⟩:=h;exact⟨x,sd,by rw[Lp];exact h1,by rw[dc rfl x h1];exact h2,h3.mono hle⟩
 |loop id env st pe=>
  obtain⟨x,pn,h1,h2,h3⟩:=h;refine⟨x,pn,by rw[Lp];exact h1,by rw[dc rfl x h1];exact h2,fun t=> ?_⟩;have:=h3 t
  revert this
  split
  ·exact fun h=>h.mono hle
  ·exact fun h=>h
theorem qg{b b':Nat}{y:UB}(h:live (Sa H b y) b'):(b'=b/\Xd y=true)\/(b'≠b/\live H b'):=by
 obtain⟨x,hx,hl⟩:=h;rw[Vu]at hx;split at hx
 ·rename_i e;split at hx
  ·simp at hx;subst hx;exact .inl ⟨e.symm,hl⟩
  ·simp at hx
 ·rename_i e;exact .inr ⟨fun e'=>e e'.symm,x,hx,hl⟩
theorem RH.yaf(h:RH m H Hv){b x s0:Nat}{y:UB}{yv:V.AB}(hb:live H b)(hx:m.ι b s0=some x)(hy:RB m (V.Sa Hv x yv) b y):RH m (Sa H b y) (V.Sa Hv x yv)/\Yj m.top m Hv m (V.Sa Hv x yv):=by
 refine⟨⟨fun b' s x' ud=> ?_,fun b' y' Tf=> ?_,fun b1 b2 s s' x' h1 h2 e1 e2=> ?_,h.wm,by simpa[V.Sa]using h.top,by simpa[Sa]using h.len⟩,⟨.refl (va _),fun x' Rk hn=> ?_,fun b' s x' ud=> .inl ⟨b',s,ud⟩,by simp[V.Sa],rfl⟩⟩
 ·have:=h.He b' x' ud;simpa[Sa,V.Sa]using this
 ·rw[Vu]at Tf;split at Tf
  ·rename_i e;subst e;split at Tf
   ·simp at Tf;subst Tf;exact hy
   ·simp at Tf
  ·rename_i e;refine(h.Tc b' y' Tf).keep (.refl m) rfl rfl fun hl s x' Rk=> ?_
   rw[Ac,if_neg]
   rintro rfl
   exact e (h.inj b b' x hb ⟨y',Tf,hl⟩ hx Rk)
 ·have k1:live H b1:=by rcases qg h1 with⟨rfl,_⟩|⟨_,h⟩<;>assumption
  have k2:live H b2:=by rcases qg h2 with⟨rfl,_⟩|⟨_,h⟩<;>assumption
  exact h.Pn b1 b2 x' k1 k2 e1 e2
 ·rw[Ac,if_neg (fun e=>hn b s0 (by rw[<- e];exact hx))]
theorem RH.set(h:RH m H Hv){b x:Nat}{y:UB}{yv:V.AB}(hb:live H b)(hx:m.ι b 0=some x)(hy:RB m (V.Sa Hv x yv) b y):RH m (Sa H b y) (V.Sa Hv x yv)/\Yj m.top m Hv m (V.Sa Hv x yv):=h.yaf hb hx hy
theorem RH.kill(h:RH m H Hv)(b:Nat):RH m (Sa H b .dead) Hv:=by
 refine⟨fun b' s x' ud=>by simpa[Sa]using h.He b' x' ud,fun b' y' Tf=> ?_,fun b1 b2 s s' x' h1 h2 e1 e2=> ?_,h.wm,h.top,by simpa[Sa]using h.len⟩
 ·rw[Vu]at Tf;split at Tf
  ·split at Tf
   ·simp at Tf;subst Tf;trivial
   ·simp at Tf
  ·exact h.Tc b' y' Tf
 ·have k:∀{b'},live (Sa H b .dead) b'->live H b':=fun h=>by rcases qg h with⟨_,h'⟩|⟨_,h⟩;simp[Xd]at h';exact h
  exact h.Pn b1 b2 x' (k h1) (k h2) e1 e2
theorem RH.other(h:RH m H Hv){x:Nat}(hx:∀b s,live H b->m.ι b s≠some x)(yv:V.AB):RH m H (V.Sa Hv x yv):=by
 refine⟨fun b' s x' ud=>by simpa[V.Sa]using h.He b' x' ud,fun b' y' Tf=> ?_,h.Pn,h.wm,by simpa[V.Sa]using h.top,h.len⟩;refine(h.Tc b' y' Tf).keep (.refl m) rfl rfl fun hl s x' Rk=> ?_
 rw[Ac,if_neg]
 rintro rfl
 exact hx b' s ⟨y',Tf,hl⟩ Rk
theorem RH.alike(h:RH m H Hv)(dc:∀b{s}x,live H b->m.ι b s=some x->Lc.bl[x]?=Hv.bl[x]?)(hlen:Lc.bl.length=Hv.bl.length)(Yf:Lc.wm=Hv.wm):RH m H Lc:=by
 refine⟨fun b' s x' ud=>by rw[hlen];exact h.He b' x' ud,fun b' y' Tf=> ?_,h.Pn,by rw[Yf];exact h.wm,by rw[hlen,Yf];exact h.top,h.len⟩;exact(h.Tc b' y' Tf).keep (.refl m) rfl rfl fun hl s x' Rk=>dc b' x' ⟨y',Tf,hl⟩ Rk
theorem gR(h:RH m H Hv)(f:Nat->Option Nat)(g:Nat->Nat):m.Le (m.Zi H.bl.length f g):=⟨fun b s x' hb=>by
 have:=(h.He b x' hb).1;rw[jf m f g (by omega),Nj m f g (by omega)];exact⟨hb,rfl⟩,by have:=h.len;simp[Mp.Zi];omega,fun b hb=>by have:=h.len;rw[Nj m f g (by omega)]⟩
theorem tO(h:RH m H Hv)(x:Option Nat)(n:Nat):m.Le (m.add H.bl.length x n):=gR h _ _
theorem yL(h:RH m H Hv)(f:Nat->Option Nat)(g:Nat->Nat):ZU m.top m (m.Zi H.bl.length f g):=⟨by simp[Mp.Zi];have:=h.len;omega,fun b hb=>by
 have:=h.len;exact⟨jf m f g (by omega),Nj m f g (by omega)⟩⟩
theorem Kg(h:RH m H Hv)(x:Option Nat)(n:Nat):ZU m.top m (m.add H.bl.length x n):=yL h _ _
theorem RH.V8(h:RH m H Hv){y:UB}{f:Nat->Option Nat}{g:Nat->Nat}(dc:∀b{s}x',live H b->m.ι b s=some x'->Lc.bl[x']?=Hv.bl[x']?)(hlen:Hv.bl.length<=Lc.bl.length)(Yf:Lc.wm=Hv.wm)
  (hx:∀s xv,f s=some xv->xv<Lc.bl.length/\Hv.wm<=xv/\∀b s',live H b->m.ι b s'≠some xv) (hfi:∀s s' xv,f s=some xv->f s'=some xv->s=s') (hy:RB (m.Zi H.bl.length f g) Lc H.bl.length y):
  RH (m.Zi H.bl.length f g) (U.push H y) Lc/\m.Le (m.Zi H.bl.length f g):=by
 have hle:=gR h f g;have KM:∀{b},live (U.push H y) b->b=H.bl.length\/live H b:=fun{b}⟨y',Tf,hl⟩=>by
  rw[EE]at Tf;split at Tf
  ·exact .inr ⟨y',Tf,hl⟩
  ·split at Tf
   ·rename_i e;exact .inl e
   ·simp at Tf
 have Sc:∀{b},live H b->b≠H.bl.length:=fun{b}⟨y',Tf,_⟩=>by have:=Xa Tf;omega
 refine⟨⟨fun b s x' hb=> ?_,fun b y' Tf=> ?_,fun b1 b2 s s' x' h1 h2 e1 e2=> ?_,fun b s x' hb hw=> ?_,by rw[Yf];exact Gb h.top hlen,by simp[Mp.Zi,U.push]⟩,hle⟩
 ·by_cases e:b=H.bl.length
  ·subst e;rw[mh]at hb;exact⟨by simp[U.push],(hx s x' hb).1⟩
  ·rw[jf m f g e]at hb;have:=h.He b x' hb;exact⟨by simp[U.push];omega,by omega⟩
 ·rw[EE]at Tf;split at Tf
  ·rename_i tc;exact(h.Tc b y' Tf).keep hle (jf m f g (by omega)) (Nj m f g (by omega)) fun hl s x' Rk=>dc b x' ⟨y',Tf,hl⟩ Rk
  ·split at Tf
   ·rename_i e;simp at Tf;subst Tf;subst e;exact hy
   ·simp at Tf
 ·rcases KM h1 with rfl|l1<;>rcases KM h2 with rfl|l2
  ·rw[mh]at e1 e2;exact⟨rfl,hfi s s' x' e1 e2⟩
  ·rw[mh]at e1;rw[jf m f g (Sc l2)]at e2;exact absurd e2 ((hx s x' e1).2.2 b2 s' l2)
  ·rw[mh]at e2;rw[jf m f g (Sc l1)]at e1;exact absurd e1 ((hx s' x' e2).2.2 b1 s l1)
  ·rw[jf m f g (Sc l1)]at e1;rw[jf m f g (Sc l2)]at e2;exact h.Pn b1 b2 x' l1 l2 e1 e2
 ·rw[Yf];by_cases e:b=H.bl.length
  ·subst e;rw[mh]at hb;exact(hx s x' hb).2.1
  ·rw[jf m f g e]at hb;exact h.wm b x' hb hw
theorem RH.push(h:RH m H Hv){y:UB}{x:Option Nat}{n:Nat}(dc:∀b{s}x',live H b->m.ι b s=some x'->Lc.bl[x']?=Hv.bl[x']?)(hlen:Hv.bl.length<=Lc.bl.length)(Yf:Lc.wm=Hv.wm)
  (hx:∀xv,x=some xv->xv<Lc.bl.length/\Hv.wm<=xv/\∀b s,live H b->m.ι b s≠some xv) (hy:RB (m.add H.bl.length x n) Lc H.bl.length y):
  RH (m.add H.bl.length x n) (U.push H y) Lc/\m.Le (m.add H.bl.length x n):=
 h.V8 dc hlen Yf (fun s xv e=>hx xv (IA e).2) (fun s s' xv e e'=>by rw[(IA e).1,(IA e').1]) hy
theorem RH.new(h:RH m H Hv){y:UB}{yv:V.AB}{n:Nat}(hy:RB (m.add H.bl.length (some Hv.bl.length) n) (V.push Hv yv) H.bl.length y):
  RH (m.add H.bl.length (some Hv.bl.length) n) (U.push H y) (V.push Hv yv)/\m.Le (m.add H.bl.length (some Hv.bl.length) n)/\Yj m.top m Hv (m.add H.bl.length (some Hv.bl.length) n) (V.push Hv yv):=by
 have h1:=h.push (Lc:=V.push Hv yv) (y:=y) (x:=some Hv.bl.length) (n:=n) (fun b s x' hl hb=>by rw[Ie,if_pos (h.He b x' hb).2]) (by simp[V.push]) rfl
  (fun xv e=>by
   simp at e;subst e;exact⟨by simp[V.push],h.top,fun b s _ hb=>by have:=(h.He b _ hb).2;omega⟩) hy
 refine⟨h1.1,h1.2,⟨Kg h _ _,fun x hx _=>by rw[Ie,if_pos hx],fun b s x hb=> ?_,by simp[V.push],rfl⟩⟩;by_cases e:b=H.bl.length
 ·subst e;obtain⟨_,e⟩:=Ti hb;simp at e;subst e;exact .inr (va _)
 ·rw[Cf _ _ _ e]at hb;exact .inl ⟨b,s,hb⟩
theorem O3{m:Mp}{b0:Nat}{f:Nat->Option Nat}{g:Nat->Nat}{N:Nat}(hf:∀s x,f s=some x->(∃b1 s1,m.ι b1 s1=some x)\/N<=x)(b:Nat){s:Nat}(x:Nat)(hb:(m.Zi b0 f g).ι b s=some x):(∃b1 s1,m.ι b1 s1=some x)\/N<=x:=by
 by_cases e:b=b0
 ·subst e;rw[mh]at hb;exact hf s x hb
 ·rw[jf _ _ _ e]at hb;exact .inl ⟨b,s,hb⟩
def fG(x:Nat)(F:Nat->Option Nat):Nat->Option Nat
 |0=>some x
 |r+1=>F r
def X_{c:CT}(L:List (List (Fb c))):Nat->Nat
 |0=>L.length
 |r+1=>(L.getD r []).length
theorem RH.NO(hh:RH m H Hv){c:CT}{L:List (List (Fb c))}{rows:List (List V.AV)}{ty:Option (TypeId×Nat)}{F:Nat->Option Nat}(XG:rows.length=L.length)
  (hF:∀r x,F r=some x->(∃b s,m.ι b s=some x)/\Hv.wm<=x/\∀b s,live H b->m.ι b s≠some x) (hFi:∀r r' x,F r=some x->F r'=some x->r=r') (hFo:∀r,L.length<=r->F r=none)
  (jd:∀r,r<L.length->∃a,rows[r]?=some [a]/\Ul m Hv (F r) c (L.getD r []) a):
  ∃m',RH m' (U.push H (.deep c L)) (V.push Hv (.cells rows 1 ty))/\RV m' (.all H.bl.length) (.sl Hv.bl.length 0 L.length)/\m.Le m'/\Yj m.top m Hv m' (V.push Hv (.cells rows 1 ty)):=by
 have tc:∀r x,F r=some x->x<Hv.bl.length:=fun r x h=>by
  obtain⟨b,s,h1⟩:=(hF r x h).1;exact(hh.He b x h1).2
 have h1:=hh.V8 (Lc:=V.push Hv (.cells rows 1 ty)) (y:= .deep c L) (f:=fG Hv.bl.length F) (g:=X_ L) (fun b s x' hl hb=>by rw[Ie,if_pos (hh.He b x' hb).2]) (by simp[V.push]) rfl
  (fun s xv e=>by
   cases s with
   |zero=>
    simp[fG]at e;subst e;exact⟨by simp[V.push],hh.top,fun b s _ hb=>by have:=(hh.He b _ hb).2;omega⟩
   |succ r=>
    have e:F r=some xv:=e;exact⟨by have:=tc r xv e;simp[V.push];omega,(hF r xv e).2.1,(hF r xv e).2.2⟩)
  (fun s s' xv e e'=>by
   cases s with
   |zero=>
    cases s' with
    |zero=>rfl
    |succ r'=>
     have e':F r'=some xv:=e';have:=tc r' xv e';simp[fG]at e;omega
   |succ r=>
    have e:F r=some xv:=e;cases s' with
    |zero=>have:=tc r xv e;simp[fG]at e';omega
    |succ r'=>
     have e':F r'=some xv:=e';rw[hFi r r' xv e e'])
  (by
   refine⟨by rw[Gr];rfl,fun r=>⟨by rw[Gr];rfl,fun hr=>by rw[mh];exact hFo r hr⟩,.inr ⟨Hv.bl.length,rows,ty,by rw[mh];rfl,by rw[Ie,if_neg (by omega),if_pos rfl],by omega,fun r hr=> ?_⟩⟩;obtain⟨a,k1,k2⟩:=jd r hr;refine⟨a,k1,?_⟩;rw[mh];exact k2.keep (fun x y hc h=>h.free _ 8 hc) fun x hx=>by rw[Ie,if_pos (tc r x hx)])
 refine⟨_,h1.1,?_,h1.2,⟨yL hh _ _,fun x hx _=>by rw[Ie,if_pos hx],fun b s x hb=>O3 (fun s x e=> ?_) b x hb,by simp[V.push],rfl⟩⟩
 ·have:=RV.all (m:=m.Zi H.bl.length (fG Hv.bl.length F) (X_ L)) H.bl.length Hv.bl.length (by rw[mh];rfl);rw[Gr]at this;exact this
 ·cases s with
  |zero=>simp[fG]at e;subst e;exact .inr (va _)
  |succ r=>exact .inl (hF r x e).1
end
end Go.U
namespace Go.U
open Go
variable [TB:ZC]
section
variable {A:V.Eh}{Ra:Nat->Option (List UV)}{m:Mp}{φ:Nat->Option Nat}{s:St}{sv:V.S}{X:Type}{out:X}
theorem ek.row{z n:Nat}{f:Nat->List UV}{rows:List (List V.AV)}(h:ek m z n f rows)(hn:n<=rows.length){i:Nat}(hi:i<n):∃row,rows[i]?=some row/\RL m (f i) row/\row.length=z:=by
 have hr:=Aa (l:=rows) (i:=i) (by omega);have hz:=h.2.1 i _ hi hr;exact⟨_,hr,⟨by rw[hz,(h.1 i hi).1],fun c x a h1 h2=>h.2.2 i _ c x a hi hr h1 h2⟩,hz⟩
theorem yc(h:RH m s.H sv.H){b:Nat}{c:CT}{l:List (Fb c)}(hb:s.H.bl[b]?=some (.cells c l)):m.len b 0=l.length/\∀x,m.ι b 0=some x->∃rows ty,sv.H.bl[x]?=some (.cells rows (width c) ty)/\l.length<=rows.length/\ek m (width c) l.length (vw c l) rows:=by
 obtain⟨h1,h2⟩:=h.Tc b _ hb;refine⟨h1,fun x hx=> ?_⟩;rcases h2 with⟨_,h3⟩|⟨x',rows,ty,h3,h4,h5,h6⟩
 ·rw[hx]at h3;simp at h3
 ·rw[hx]at h3;simp at h3;subst h3;exact⟨rows,ty,h4,h5,h6⟩
theorem Ud(h:RH m s.H sv.H){b:Nat}{c:CT}{l:List (List (Fb c))}(hb:s.H.bl[b]?=some (.deep c l)):m.len b 0=l.length/\(∀r,m.len b (r+1)=(l.getD r []).length)/\∀x,m.ι b 0=some x->∃rows ty,sv.H.bl[x]?=some (.cells rows 1 ty)/\l.length<=rows.length/\
  ∀r,r<l.length->∃a,rows[r]?=some [a]/\Ul m sv.H (m.ι b (r+1)) c (l.getD r []) a:=by
 obtain⟨h1,h0,h2⟩:=h.Tc b _ hb;refine⟨h1,fun r=>(h0 r).1,fun x hx=> ?_⟩;rcases h2 with⟨_,h3⟩|⟨x',rows,ty,h3,h4,h5,h6⟩
 ·rw[hx]at h3;simp at h3
 ·rw[hx]at h3;simp at h3;subst h3;exact⟨rows,ty,h4,h5,h6⟩
theorem Ow(h:RH m s.H sv.H){b r y:Nat}{c:CT}{l:List (List (Fb c))}(hb:s.H.bl[b]?=some (.deep c l))(hy:m.ι b (r+1)=some y):r<l.length/\∃rows ty,sv.H.bl[y]?=some (.cells rows (width c) ty)/\(l.getD r []).length<=rows.length/\ek m (width c) (l.getD r []).length (vw c (l.getD r [])) rows:=by
 obtain⟨h1,h0,h2⟩:=h.Tc b _ hb;have hr:r<l.length:=by
  rcases Ub r l.length with h|h
  ·exact h
  ·rw[(h0 r).2 h]at hy;simp at hy
 refine⟨hr,?_⟩;rcases h2 with⟨h3,_⟩|⟨x',rows,ty,h3,h4,h5,h6⟩
 ·omega
 ·obtain⟨a,k1,k2⟩:=h6 r hr;rcases k2 with⟨_,k3,_⟩|⟨y',Wd,Q8,k3,k4,k5,k6,k7⟩
  ·rw[hy]at k3;simp at k3
  ·rw[hy]at k3;simp at k3;subst k3;exact⟨Wd,Q8,k5,k6,k7⟩
theorem zV{c:CT}{l:List (Fb c)}{r:Nat}{x:Fb c}{i:Nat}(hr:r<l.length):vw c (l.set r x) i=if i=r then enc c x else vw c l i:=by
 simp only[vw,Ka,Ob];split
 ·rename_i e;subst e;simp[hr]
 ·rename_i e;rw[if_neg (fun e'=>e e'.symm)]
theorem WE(h:RH m s.H sv.H){b x:Nat}{row:List UV}(hb:s.H.bl[b]?=some (.Za row))(hx:m.ι b 0=some x):∃Jb ty,sv.H.bl[x]?=some (.cells [Jb] Jb.length ty)/\RL m row Jb:=by
 obtain⟨x',Jb,ty,h1,h2,h3⟩:=h.Tc b _ hb;rw[hx]at h1;simp at h1;subst h1;exact⟨Jb,ty,h2,h3⟩
theorem Gv{t:TypeId}{p:US}{pv:V.SV}{x:UV}(h:load A s t p=some x)(hh:RH m s.H sv.H)(hf:RF m φ s.F sv.F)(hp:RS m φ p pv):∃a,V.load A sv t pv=some a/\RV m x a:=by
 unfold load at h;split at h
 ·rename_i i c;cases pv with
  |v a=>exact hp.elim
  |loc j c'=>
   obtain⟨h1,rfl⟩:=hp;simp only[aa]at h;obtain⟨row,hr,h⟩:=h;obtain⟨j',Jb,k1,k2,k3⟩:=hf.row i row hr;rw[h1]at k1;simp at k1;subst k1;obtain⟨a,k4,k5⟩:=og h k3;exact⟨a,by simp[V.load,k2,k4],k5⟩
 ·rename_i b c;obtain⟨a,rfl,hv⟩:=hp.val (by simp);cases hv with
  |ptr _ _ x hx=>
   split at h
   ·rename_i row hb;obtain⟨Jb,ty,k1,k2⟩:=WE hh hb hx;obtain⟨a,k4,k5⟩:=og h k2;exact⟨a,by simp[V.load,V.rowAt,k1,k4],k5⟩
   ·simp at h
 ·rename_i b r c;obtain⟨a,rfl,hv⟩:=hp.val (by simp);cases hv with
  |Um _ _ _ x hx hr=>
   split at h
   ·rename_i ct l hb;obtain⟨k0,k1⟩:=yc hh hb;obtain⟨rows,ty,k2,k3,k4⟩:=k1 x hx;obtain⟨row,k5,k6,_⟩:=k4.row k3 (i:=r) (by rw[<- k0];exact hr);obtain⟨a,k7,k8⟩:=og h k6;exact⟨a,by simp[V.load,V.rowAt,k2,k5,k7],k8⟩
   ·rename_i ct l hb;obtain⟨k0,k1,k2⟩:=Ud hh hb;obtain⟨rows,ty,k3,k4,k5⟩:=k2 x hx;have XG:r<l.length:=by rw[<- k0];exact hr
    obtain⟨a0,k6,k7⟩:=k5 r XG;have hd:RV m (.Qp b r) a0:=by
     rcases k7 with⟨j1,j2,j3⟩|⟨y,Wd,Q8,j1,rfl,_⟩
     ·exact .Ju b r a0 (by rw[hh.len];exact Xa hb) (by rw[k1 r];exact j1) j3
     ·rw[<- k1 r];exact .Qp b r y j1
    obtain⟨a,k8,k9⟩:=og h (RL.cons hd RL.nil);exact⟨a,by simp[V.load,V.rowAt,k3,k6,k8],k9⟩
   ·simp at h
 ·rename_i b r j c;obtain⟨a,rfl,hv⟩:=hp.val (by simp);cases hv with
  |cq _ _ _ _ x hx hj=>
   split at h
   ·rename_i ct l hb;obtain⟨k0,k1,_⟩:=Ud hh hb;obtain⟨XG,rows,ty,k2,k3,k4⟩:=Ow hh hb hx;obtain⟨row,k5,k6,_⟩:=k4.row k3 (i:=j) (by rw[<- k1 r];exact hj);obtain⟨a,k7,k8⟩:=og h k6;exact⟨a,by simp[V.load,V.rowAt,k2,k5,k7],k8⟩
   ·simp at h
 ·rename_i row;obtain⟨a,rfl,hv⟩:=hp.val (by simp);cases hv with
  |Bd _ Jb hl hc hr=>
   obtain⟨a,k1,k2⟩:=og h ⟨hl,hr⟩;exact⟨a,by simp[V.load,k1],k2⟩
 ·simp at h
theorem RF.set{F:List (List UV)}{Fv:List (List V.AV)}(h:RF m φ F Fv){i j:Nat}{row:List UV}{Jb:List V.AV}(jD:φ i=some j)(hr:RL m row Jb):RF m φ (F.set i row) (Fv.set j Jb):=by
 refine⟨fun a b hab=>by simpa using h.He a b hab,fun a r ha=> ?_,h.inj⟩;rw[Ob]at ha;split at ha
 ·rename_i e;subst e;split at ha
  ·simp at ha;subst ha;refine⟨j,Jb,jD,?_,hr⟩;rw[Ob,if_pos rfl,if_pos (h.He _ _ jD).2]
  ·simp at ha
 ·rename_i e;obtain⟨b,r',k1,k2,k3⟩:=h.row a r ha;refine⟨b,r',k1,?_,k3⟩;rw[Ob,if_neg]
  ·exact k2
  ·rintro rfl;exact e (h.inj i a _ jD k1)
theorem RF.mono{m':Mp}{F:List (List UV)}{Fv:List (List V.AV)}(h:RF m φ F Fv)(hle:m.Le m'):RF m' φ F Fv:=
 ⟨h.He,fun i row hi=>let⟨j,Jb,h1,h2,h3⟩:=h.row i row hi;⟨j,Jb,h1,h2,h3.mono hle⟩,h.inj⟩
theorem CR{t:TypeId}{p:US}{pv:V.SV}{y:UV}{a:V.AV}{s':St}(h:store A s t p y=some s')(hh:RH m s.H sv.H)(hf:RF m φ s.F sv.F)(hp:RS m φ p pv)(hy:RV m y a):
  ∃xe,V.store A sv t pv a=some xe/\RH m s'.H xe.H/\RF m φ s'.F xe.F/\Yj m.top m sv.H m xe.H/\s'.e=s.e/\xe.e=sv.e/\s'.base=s.base:=by
 simp only[store,xF,aa]at h;obtain⟨cs,mj,n,hn,h⟩:=h;split at h
 case isFalse=>simp at h
 rename_i hlen;obtain⟨Oh,q1,q2⟩:=Dt mj hy;unfold V.store;simp only[q1,hn,ga];rw[if_pos (by rw[q2.1];exact hlen)];split at h
 ·rename_i i c;cases pv with
  |v a=>exact hp.elim
  |loc j c'=>
   obtain⟨h1,rfl⟩:=hp;simp only[aa]at h;obtain⟨row,hr,zf,uf,h⟩:=h;simp at h;subst h;obtain⟨j',Jb,k1,k2,k3⟩:=hf.row i row hr;rw[h1]at k1;simp at k1;subst k1;obtain⟨Hg,k4,k5,_⟩:=Wk uf k3 q2;exact⟨{ sv with F:=sv.F.set j Hg },by simp[k2,k4],hh,hf.set h1 k5,.refl _ (va _),rfl,rfl,rfl⟩
 ·rename_i b c;obtain⟨a',rfl,hv⟩:=hp.val (by simp);cases hv with
  |ptr _ _ x hx=>
   split at h
   case h_2=>simp at h
   rename_i row hb;split at h
   case isFalse=>simp at h
   rename_i Yf;simp only[aa]at h;obtain⟨zf,uf,h⟩:=h;simp at h;subst h;obtain⟨Jb,ty,k1,k2⟩:=WE hh hb hx;obtain⟨Hg,k4,k5,k6⟩:=Wk uf k2 q2;have hl:live s.H b:=⟨_,hb,rfl⟩;have hw:=hh.wm b x hx Yf;have iP:Hg.length=Jb.length:=by rw[k5.1,k6,k2.1]
   have wh:=hh.set (y:= .Za zf) (yv:= .cells [Hg] Hg.length ty) hl hx ⟨x,Hg,ty,hx,by rw[Ac,if_pos rfl,if_pos (hh.He b x hx).2],k5⟩;refine⟨{ sv with H:=V.Sa sv.H x (.cells [Hg] Hg.length ty) },?_,wh.1,hf,wh.2,rfl,rfl,rfl⟩;simp[k1,hw,k4,iP]
 ·rename_i b r c;obtain⟨a',rfl,hv⟩:=hp.val (by simp);cases hv with
  |Um _ _ _ x hx XG=>
   split at h
   case h_2=>simp at h
   rename_i ct l hb;split at h
   case isFalse=>simp at h
   rename_i Yf;simp only[aa]at h;obtain⟨zf,uf,xr,Jab,h⟩:=h;simp at h;subst h;obtain⟨k0,k1⟩:=yc hh hb;obtain⟨rows,ty,k2,k3,k4⟩:=k1 x hx;have hrn:r<l.length:=by rw[<- k0];exact XG
   have vl:r<rows.length:=by omega
   obtain⟨Jb,k5,k6,k7⟩:=k4.row k3 hrn;obtain⟨Hg,k8,k9,k10⟩:=Wk uf k6 q2;have k9':=fo Jab k9;have hl:live s.H b:=⟨_,hb,rfl⟩;have hw:=hh.wm b x hx Yf;have wh:=hh.set (y:= .cells ct (l.set r xr)) (yv:= .cells (rows.set r Hg) (width ct) ty) hl hx (by
    refine⟨by rw[Td];exact k0,.inr ⟨x,rows.set r Hg,ty,hx,by rw[Ac,if_pos rfl,if_pos (hh.He b x hx).2],by simpa using k3,fun i hi=>⟨Af _ _ _,Vd _ _ _⟩,fun i row bH hi=> ?_,fun i row c' y' a' bH hi h1 h2=> ?_⟩⟩
    ·rw[Td]at bH;rw[Ob]at hi;split at hi
     ·simp[vl]at hi;subst hi;rw[k9'.1,Nh]
     ·exact k4.2.1 i row bH hi
    ·rw[Td]at bH;rw[Ob]at hi;rw[zV hrn]at h1;split at hi
     ·rename_i e;subst e;rw[if_pos rfl]at h1;simp[vl]at hi;subst hi;exact k9'.2 c' y' a' h1 h2
     ·rename_i e;rw[if_neg (fun e'=>e e'.symm)]at h1;exact k4.2.2 i row c' y' a' bH hi h1 h2)
   refine⟨{ sv with H:=V.Sa sv.H x (.cells (rows.set r Hg) (width ct) ty) },?_,wh.1,hf,wh.2,rfl,rfl,rfl⟩;simp[k2,hw,k5,k8]
 ·rename_i b r j c;obtain⟨a',rfl,hv⟩:=hp.val (by simp);cases hv with
  |cq _ _ _ _ x hx zS=>
   split at h
   case h_2=>simp at h
   rename_i ct l hb;split at h
   case isFalse=>simp at h
   rename_i Yf;simp only[aa]at h;obtain⟨zf,uf,xr,Jab,h⟩:=h;simp at h;subst h;obtain⟨k0,k1,kx⟩:=Ud hh hb;obtain⟨XG,rows,ty,k2,k3,k4⟩:=Ow hh hb hx;have bu:j<(l.getD r []).length:=by rw[<- k1 r];exact zS
   have hjr:j<rows.length:=by omega
   obtain⟨Jb,k5,k6,k7⟩:=k4.row k3 bu;obtain⟨Hg,k8,k9,k10⟩:=Wk uf k6 q2;have k9':=fo Jab k9;have hl:live s.H b:=⟨_,hb,rfl⟩;have hw:=hh.wm b x hx Yf;have hgd:∀i,(l.set r ((l.getD r []).set j xr)).getD i []=if i=r then(l.getD r []).set j xr else l.getD i []:=fun i=>by
    simp only[Ka,Ob];by_cases e:r=i
    ·subst e;simp[XG]
    ·rw[if_neg e,if_neg (fun e'=>e e'.symm)]
   have wh:=hh.yaf (y:= .deep ct (l.set r ((l.getD r []).set j xr))) (yv:= .cells (rows.set j Hg) (width ct) ty) hl hx (by
    obtain⟨b1,b0,b2⟩:=hh.Tc b _ hb;refine⟨by rw[Td];exact b1,fun i=>⟨?_,by rw[Td];exact(b0 i).2⟩,?_⟩
    ·rw[hgd];split
     ·rename_i e;subst e;rw[Td];exact(b0 i).1
     ·exact(b0 i).1
    rcases b2 with⟨b3,_⟩|⟨x',rws,Q8,b3,b4,b5,b6⟩
    ·omega
    have hxx:x≠x':=fun e=>by subst e;have:=(hh.Pn b b x hl hl hx b3).2;omega
    refine .inr ⟨x',rws,Q8,b3,by rw[Ac,if_neg hxx];exact b4,by rw[Td];exact b5,fun i hi=> ?_⟩;rw[Td]at hi;obtain⟨a,c1,c2⟩:=b6 i hi;refine⟨a,c1,?_⟩;rw[hgd];split
    ·rename_i e;subst e;rcases c2 with⟨c3,_⟩|⟨y,rw0,dD,c3,c4,c5,c6,c7⟩
     ·omega
     rw[hx]at c3;simp at c3;subst c3;rw[k2]at c5;simp at c5;obtain⟨rfl,rfl⟩:=c5;refine .inr ⟨x,rows.set j Hg,ty,hx,by rw[Td];exact c4,by rw[Ac,if_pos rfl,if_pos (hh.He b x hx).2],by simpa using c6,fun i hi=>⟨Af _ _ _,Vd _ _ _⟩,fun i row bH hi=> ?_,fun i row c' y' a' bH hi h1 h2=> ?_⟩
     ·rw[Td]at bH;rw[Ob]at hi;split at hi
      ·simp[hjr]at hi;subst hi;rw[k9'.1,Nh]
      ·exact c7.2.1 i row bH hi
     ·rw[Td]at bH;rw[Ob]at hi;rw[zV bu]at h1;split at hi
      ·rename_i e;subst e;rw[if_pos rfl]at h1;simp[hjr]at hi;subst hi;exact k9'.2 c' y' a' h1 h2
      ·rename_i e;rw[if_neg (fun e'=>e e'.symm)]at h1;exact c7.2.2 i row c' y' a' bH hi h1 h2
    ·rename_i e;rcases c2 with⟨c3,c4,c5⟩|⟨y,rw0,dD,c3,c4,c5,c6,c7⟩
     ·exact .inl ⟨c3,c4,c5⟩
     ·have hxy:x≠y:=fun e'=>by subst e';have:=(hh.Pn b b x hl hl hx c3).2;omega
      exact .inr ⟨y,rw0,dD,c3,c4,by rw[Ac,if_neg hxy];exact c5,c6,c7⟩)
   refine⟨{ sv with H:=V.Sa sv.H x (.cells (rows.set j Hg) (width ct) ty) },?_,wh.1,hf,wh.2,rfl,rfl,rfl⟩;simp[k2,hw,k5,k8]
 ·simp at h
theorem Ez{p p':US}{pv:V.SV}{n:Nat}(h:Lg n p=some p')(hp:RS m φ p pv):∃pv',V.Lg n pv=some pv'/\RS m φ p' pv':=by
 unfold Lg at h;split at h
 ·rename_i i c;simp at h;subst h;cases pv with
  |v a=>exact hp.elim
  |loc j c'=>obtain⟨h1,rfl⟩:=hp;exact⟨_,rfl,h1,rfl⟩
 ·rename_i b c;simp at h;subst h;obtain⟨a,rfl,hv⟩:=hp.val (by simp);cases hv with
  |ptr _ _ x hx=>exact⟨_,rfl,RV.ptr b (c+n) x hx⟩
 ·rename_i b r c;simp at h;subst h;obtain⟨a,rfl,hv⟩:=hp.val (by simp);cases hv with
  |Um _ _ _ x hx hr=>exact⟨_,rfl,RV.Um b r (c+n) x hx hr⟩
 ·rename_i b r j c;simp at h;subst h;obtain⟨a,rfl,hv⟩:=hp.val (by simp);cases hv with
  |cq _ _ _ _ x hx hr=>exact⟨_,rfl,RV.cq b r j (c+n) x hx hr⟩
 ·rename_i row;simp at h;subst h;obtain⟨a,rfl,hv⟩:=hp.val (by simp);cases hv with
  |Bd _ Jb hl hc hr=>
   have:=RL.drop (m:=m) ⟨hl,hr⟩ n;exact⟨_,rfl,RV.Bd _ _ this.1 (fun x hx=>hc x (List.mem_of_mem_drop hx)) this.2⟩
 ·simp at h
theorem Nu{i:Int}{K:Nat->Option X}:∀(n j:Nat),cases i K n j=some out->∃k,j<=k/\k<j+n/\i=(k:Int)/\K k=some out
 |0,j,h=>by simp[cases]at h
 |n+1,j,h=>by
  simp only[cases]at h;by_cases hc:i=(j:Int)
  ·simp[hc]at h;exact⟨j,va _,by omega,hc,h⟩
  ·simp[hc]at h;obtain⟨k,h1,h2,h3,h4⟩:=Nu n (j+1) h;exact⟨k,by omega,by omega,h3,h4⟩
theorem Ad{b:Bool}{x:Option X}(h:ask b x=some out):b=true/\x=some out:=by
 unfold ask at h;cases b<;>simp_all
theorem LA(r k:Nat):YU r k=r+k:=by unfold YU;split<;>simp
theorem AD{t:TypeId}{p:US}{i:Int}{K:US->Option X}(h:indexAddr A s.H t p i K=some out):
  ∃v,K v=some out/\∀(m:Mp)(φ:Nat->Option Nat)(sv:V.S)(pv:V.SV),RH m s.H sv.H->RS m φ p pv->∃vv,V.indexAddr A sv.H t pv i=some vv/\RS m φ v vv:=by
 unfold indexAddr at h;split at h
 ·rename_i n e hu;simp only[aa]at h;obtain⟨sz,se,h⟩:=h;obtain⟨k,_,hk,rfl,hc⟩:=Nu n 0 h;obtain⟨v,hv,h⟩:=aa.1 hc;refine⟨v,h,fun m φ sv pv hh hp=> ?_⟩;obtain⟨vv,h1,h2⟩:=Ez hv hp;refine⟨vv,?_,h2⟩;have hr:V.ja (k:Int) n=true:=by simp[V.ja];omega
  simp[V.indexAddr,hu,hr,se,h1]
 ·rename_i e hu;split at h
  ·rename_i b r n;split at h
   case h_3=>simp at h
   case h_2=>
    rename_i ct l hb;split at h
    case isFalse=>simp at h
    rename_i hz;obtain⟨h0,h⟩:=Ad h;refine⟨_,h,fun m φ sv pv hh hp=> ?_⟩;obtain⟨a,rfl,hv⟩:=hp.val (by simp);have M9:0<=i/\i<(n:Int):=by simpa[V.ja]using h0
    have tc:i.toNat<n:=by omega
    cases hv with
    |sl _ _ _ x hx hle=>
     obtain⟨k0,k1,k2⟩:=Ud hh hb;obtain⟨rows,ty,k3,k4,k5⟩:=k2 x hx;refine⟨.v (.ptr x (r+i.toNat) 0),?_,?_⟩
     ·simp[V.indexAddr,hu,h0,V.Uj,k3,hz]
     ·rw[LA];exact RV.Um b _ 0 x hx (by omega)
    |Vt _ _ a ha=>omega
   rename_i ct l hb;split at h
   case isFalse=>simp at h
   rename_i hz;obtain⟨h0,h⟩:=Ad h;refine⟨_,h,fun m φ sv pv hh hp=> ?_⟩;obtain⟨a,rfl,hv⟩:=hp.val (by simp);have M9:0<=i/\i<(n:Int):=by simpa[V.ja]using h0
   have tc:i.toNat<n:=by omega
   cases hv with
   |sl _ _ _ x hx hle=>
    obtain⟨k0,k1⟩:=yc hh hb;obtain⟨rows,ty,k2,k3,k4⟩:=k1 x hx;refine⟨.v (.ptr x (r+i.toNat) 0),?_,?_⟩
    ·simp[V.indexAddr,hu,h0,V.Uj,k2,hz]
    ·rw[LA];exact RV.Um b _ 0 x hx (by omega)
   |Vt _ _ a ha=>omega
  ·rename_i b;split at h
   case h_3=>simp at h
   case h_2=>
    rename_i ct l hb;split at h
    case isFalse=>simp at h
    rename_i hz;obtain⟨h0,h⟩:=Ad h;refine⟨_,h,fun m φ sv pv hh hp=> ?_⟩;obtain⟨a,rfl,hv⟩:=hp.val (by simp);have M9:0<=i/\i<(l.length:Int):=by simpa[V.ja]using h0
    have tc:i.toNat<l.length:=by omega
    obtain⟨k0,k1,k2⟩:=Ud hh hb;cases hv with
    |all _ x hx=>
     obtain⟨rows,ty,k3,k4,k5⟩:=k2 x hx;refine⟨.v (.ptr x (0+i.toNat) 0),?_,?_⟩
     ·simp[V.indexAddr,hu,k0,h0,V.Uj,k3,hz]
     ·rw[Qe];exact RV.Um b _ 0 x hx (by omega)
    |Wf _ a _ hl ha=>omega
   rename_i ct l hb;split at h
   case isFalse=>simp at h
   rename_i hz;obtain⟨h0,h⟩:=Ad h;refine⟨_,h,fun m φ sv pv hh hp=> ?_⟩;obtain⟨a,rfl,hv⟩:=hp.val (by simp);have M9:0<=i/\i<(l.length:Int):=by simpa[V.ja]using h0
   have tc:i.toNat<l.length:=by omega
   obtain⟨k0,k1⟩:=yc hh hb;cases hv with
   |all _ x hx=>
    obtain⟨rows,ty,k2,k3,k4⟩:=k1 x hx;refine⟨.v (.ptr x (0+i.toNat) 0),?_,?_⟩
    ·simp[V.indexAddr,hu,k0,h0,V.Uj,k2,hz]
    ·rw[Qe];exact RV.Um b _ 0 x hx (by omega)
   |Wf _ a _ hl ha=>omega
  ·rename_i b r;split at h
   case h_2=>simp at h
   rename_i ct l hb;split at h
   case isFalse=>simp at h
   rename_i hz;obtain⟨h0,h⟩:=Ad h;refine⟨_,h,fun m φ sv pv hh hp=> ?_⟩;obtain⟨a,rfl,hv⟩:=hp.val (by simp);have M9:0<=i/\i<((l.getD r []).length:Int):=by simpa only[V.ja,Na,decide_eq_true_eq]using h0
   have tc:i.toNat<(l.getD r []).length:=by omega
   obtain⟨k0,k1,_⟩:=Ud hh hb;cases hv with
   |Qp _ _ x hx=>
    obtain⟨XG,rows,ty,k2,k3,k4⟩:=Ow hh hb hx;refine⟨.v (.ptr x (0+i.toNat) 0),?_,?_⟩
    ·have aam:V.ja i (m.len b (r+1))=true:=by rw[k1 r];exact h0
     simp[V.indexAddr,hu,aam,V.Uj,k2,hz]
    ·rw[Qe];exact RV.cq b r _ 0 x hx (by rw[k1 r];exact tc)
   |Ju _ _ a _ hl ha=>rw[k1 r]at hl;omega
  ·rename_i ct l;split at h
   case isFalse=>simp at h
   rename_i hz;obtain⟨h0,h⟩:=Ad h;refine⟨_,h,fun m φ sv pv hh hp=> ?_⟩;obtain⟨a,rfl,hv⟩:=hp.val (by simp);have M9:0<=i/\i<(l.length:Int):=by simpa[V.ja]using h0
   have tc:i.toNat<l.length:=by omega
   cases hv with
   |lit _ _ rows h1 h2 h3=>
    have vl:ek m (width ct) rows.length (vw ct l) rows:=⟨fun i _=>⟨Af _ _ _,Vd _ _ _⟩,fun i row _=>h2 i row,fun i row c x a _=>h3 i row c x a⟩;obtain⟨row,k5,k6,k7⟩:=vl.row (va _) (i:=i.toNat) (by omega);refine⟨.v (.Bd row),?_,?_⟩
    ·simp[V.indexAddr,hu,h1,h0,hz,k5]
    ·exact RV.Bd _ _ k6.1 (Vd _ _ _) k6.2
   |ri _ a ha=>simp at tc
  ·simp at h
 ·simp at h
theorem oS{t:TypeId}{x:UV}{i:Int}{K:UV->Option X}(h:index A t x i K=some out):
  ∃v,K v=some out/\∀(m:Mp)(a:V.AV),RV m x a->∃b,V.index A t a i=some b/\RV m v b:=by
 unfold index at h;split at h
 ·rename_i n e cs hu;simp only[aa]at h;obtain⟨sz,se,h⟩:=h;obtain⟨k,_,hk,rfl,hc⟩:=Nu n 0 h;obtain⟨v,hv,h⟩:=aa.1 hc;refine⟨v,h,fun m a ha=> ?_⟩;cases ha with
  |agg _ as hl hr=>
   obtain⟨b,h1,h2⟩:=og hv ⟨hl,hr⟩;have dm:V.ja (k:Int) n=true:=by simp[V.ja];omega
   exact⟨b,by simp[V.index,hu,dm,se,h1],h2⟩
 ·rename_i str hu;obtain⟨h0,h⟩:=Ad h;refine⟨_,h,fun m a ha=> ?_⟩;cases ha with
  |str=>exact⟨_,by simp[V.index,hu,h0],.int _ _⟩
 ·simp at h
theorem RP.cons{i:Nat}{x:UV}{ps:List (Nat×UV)}{qs:List (Nat×V.AV)}(h:RP m ((i,x)::ps) qs):∃a U8,qs=(i,a)::U8/\RV m x a/\RP m ps U8:=by
 obtain⟨h1,h2⟩:=h;cases qs with
 |nil=>simp at h1
 |cons q qs=>
  obtain⟨j,a⟩:=q;simp at h1;obtain⟨rfl,h1⟩:=h1;refine⟨a,qs,rfl,h2.2 0 x a rfl rfl,h1,⟨by have:=h2.1;simpa using this,fun k y b k1 k2=>h2.2 (k+1) y b (by simpa using k1) (by simpa using k2)⟩⟩
theorem Jq{place:Nat->Option (Nat×Nat)}:∀{ps:List (Nat×UV)}{qs:List (Nat×V.AV)}{row zf:List UV}{Jb:List V.AV},ig place row ps=some zf->RL m row Jb->RP m ps qs->∃Hg,V.ig place Jb qs=some Hg/\RL m zf Hg
 |[],qs,row,zf,Jb,h,hr,hp=>by
  simp[ig]at h;subst h;have:qs=[]:=by have:=hp.1;simpa using this
  subst this;exact⟨Jb,rfl,hr⟩
 |(i,x)::ps,qs,row,zf,Jb,h,hr,hp=>by
  obtain⟨a,U8,rfl,hx,DL⟩:=hp.cons;simp only[ig,aa]at h;obtain⟨⟨off,n⟩,ED,cs,mj,h⟩:=h;split at h
  case isFalse=>simp at h
  rename_i hlen;simp only[aa]at h;obtain⟨Yk,uf,h⟩:=h;obtain⟨Oh,q1,q2⟩:=Dt mj hx;obtain⟨Mam,k1,k2,_⟩:=Wk uf hr q2;obtain⟨Hg,k3,k4⟩:=Jq h k2 DL;refine⟨Hg,?_,k4⟩;simp only[V.ig,ED,q1,ga];rw[if_pos (by rw[q2.1];exact hlen),k1];exact k3
theorem VU{t:TypeId}{ps:List (Nat×UV)}{qs:List (Nat×V.AV)}{v:UV}(h:build A t ps=some v)(hp:RP m ps qs):∃a,V.build A t qs=some a/\RV m v a:=by
 simp only[build,aa]at h;obtain⟨z,hz,h⟩:=h;obtain⟨z',q1,q2,_⟩:=jq hz;unfold V.build;simp only[q1,ga];split at h
 ·rename_i fs hu;split at h
  case isFalse=>simp at h
  rename_i gg;simp only[ia]at h;obtain⟨row,jd,rfl⟩:=h;obtain⟨Jb,k1,k2⟩:=Jq jd (q2 m) hp;exact⟨.agg Jb,by rw[hu];simp only[gg,if_true,k1,Mc],.agg _ _ k2.1 k2.2⟩
 ·rename_i n e hu;simp only[aa,ia]at h;obtain⟨sz,se,row,jd,rfl⟩:=h;obtain⟨Jb,k1,k2⟩:=Jq jd (q2 m) hp;exact⟨.agg Jb,by rw[hu];simp only[se,ga,k1,Mc],.agg _ _ k2.1 k2.2⟩
 ·simp at h
end
end Go.U
namespace Go.U
open Go
variable [TB:ZC]
def vo(Hv:V.AH):V.AV->Option (List (List V.AV))
 | .str s=>some (V.jc s)
 |y=>V.rowsOf Hv y
def Ou(Hv:V.AH)(x':V.AV)(xs ys:List (List V.AV))(zl:Nat)(te:TypeId):Option (V.AV×V.AH):=
 match x' with
 | .Ya| .Pd=>some (.sl Hv.bl.length 0 ys.length,V.push Hv (.cells ys zl (some (te,1))))
 | .sl b r _=>if Hv.wm<=b/\V.Uj Hv b=some zl then some (.sl Hv.bl.length 0 (xs.length+ys.length),V.push (V.Sa Hv b .dead) (.cells (xs++ys) zl (V.Iz (V.wG Hv b) te r)))else none
 |_=>none
def gq(m:Mp)(Hv:V.AH)(v:UV)(H':UH)(a:V.AV)(Lc:V.AH):Prop:=∃m',RH m' H' Lc/\RV m' v a/\m.Le m'/\Yj m.top m Hv m' Lc
section
variable {A:V.Eh}{Ra:Nat->Option (List UV)}{m:Mp}{φ:Nat->Option Nat}{H H':UH}{Hv:V.AH}{X:Type}{out:X}
theorem gq.same{v:UV}{a:V.AV}(hh:RH m H Hv)(hv:RV m v a):gq m Hv v H a Hv:=⟨m,hh,hv,.refl m,.refl Hv (va _)⟩
def RT(m:Mp)(c:CT)(l:List (Fb c))(rows:List (List V.AV)):Prop:=rows.length=l.length/\ek m (width c) l.length (vw c l) rows
theorem RT.lit{c:CT}{l:List (Fb c)}{rows:List (List V.AV)}(h:RT m c l rows):RV m (.lit c l) (.lit (width c) rows):=
 .lit c l rows h.1 (fun i row hi=>h.2.2.1 i row (by rw[<- h.1];exact Xa hi) hi) fun i row k x a h1 h2 h3=>h.2.2.2 i row k x a (by rw[<- h.1];exact Xa h1) h1 h2 h3
theorem RT.of{c:CT}{l:List (Fb c)}{rows:List (List V.AV)}(hl:rows.length=l.length)(h:∀(i:Nat)(row:List V.AV),i<l.length->rows[i]?=some row->RL m (vw c l i) row):RT m c l rows:=
 ⟨hl,fun i _=>⟨Af _ _ _,Vd _ _ _⟩,fun i row hi hr=>by rw[(h i row hi hr).1,Af],fun i row k x a hi hr h1 h2=>(h i row hi hr).2 k x a h1 h2⟩
theorem RT.get{c:CT}{l:List (Fb c)}{rows:List (List V.AV)}(h:RT m c l rows){i:Nat}{row:List V.AV}(hr:rows[i]?=some row):RL m (vw c l i) row:=by
 have hi:i<l.length:=by rw[<- h.1];exact Xa hr
 obtain⟨Jb,j1,j2,j3⟩:=h.2.row (Ph h.1.symm) hi;rw[hr]at j1;simp at j1;subst j1;exact j2
theorem ek.mono{m':Mp}{z n:Nat}{f:Nat->List UV}{rows:List (List V.AV)}(h:ek m z n f rows)(hle:m.Le m'):ek m' z n f rows:=
 ⟨h.1,h.2.1,fun i row c x a h0 h1 h2 h3=>(h.2.2 i row c x a h0 h1 h2 h3).mono hle⟩
theorem RT.mono{m':Mp}{c:CT}{l:List (Fb c)}{rows:List (List V.AV)}(h:RT m c l rows)(hle:m.Le m'):RT m' c l rows:=⟨h.1,h.2.mono hle⟩
theorem RT.free(m':Mp){c:CT}{l:List (Fb c)}{rows:List (List V.AV)}(h:RT m c l rows):RT m' c l rows:=
 .of h.1 fun i row hi hr=>(h.get hr).free m' (Vd _ _ _)
theorem RT.nil{c:CT}:RT m c [] []:= .of rfl fun i row hi=>by simp at hi
theorem maa{c:CT}{l l':List (Fb c)}{i:Nat}:vw c (l++l') i=if i<l.length then vw c l i else vw c l' (i-l.length):=by
 simp only[vw,Ka];split
 ·rename_i h;rw[La h]
 ·rename_i h;rw[Qa (by omega)]
theorem RT.append{c:CT}{l l':List (Fb c)}{rows Wd:List (List V.AV)}(h:RT m c l rows)(h':RT m c l' Wd):RT m c (l++l') (rows++Wd):=
 .of (by simp[h.1,h'.1]) fun i row hi hr=>by
  rw[maa];split
  ·rename_i tc;rw[La (by rw[h.1];exact tc)]at hr;exact h.get hr
  ·rename_i eu;rw[Qa (by rw[h.1];omega),h.1]at hr;exact h'.get hr
theorem RT.drop{c:CT}{l:List (Fb c)}{rows:List (List V.AV)}(h:RT m c l rows)(k:Nat):RT m c (l.drop k) (rows.drop k):=
 .of (by simp[h.1]) fun i row hi hr=>by
  rw[Ec]at hr;have:vw c (l.drop k) i=vw c l (k+i):=by simp only[vw,Ka,Ec]
  rw[this];exact h.get hr
theorem RT.take{c:CT}{l:List (Fb c)}{rows:List (List V.AV)}(h:RT m c l rows)(k:Nat):RT m c (l.take k) (rows.take k):=
 .of (by simp[h.1]) fun i row hi hr=>by
  rw[Cb]at hr;split at hr
  ·rename_i hk;have:vw c (l.take k) i=vw c l i:=by simp only[vw,Ka,Cb,if_pos hk]
   rw[this];exact h.get hr
  ·simp at hr
theorem Ek{α:Type}(r n:Nat)(l:List α):Fk r n l=(l.drop r).take n:=by cases r<;>rfl
theorem RT.rows{c:CT}{l:List (Fb c)}{rows:List (List V.AV)}(h:RT m c l rows){r:List V.AV}(hr:r∈rows):r.length=width c:=by
 obtain⟨i,hi⟩:=je hr;rw[(h.get hi).1,Af]
theorem RT.block{c:CT}{l:List (Fb c)}{rows:List (List V.AV)}{b x:Nat}(hlen:m.len b 0=l.length)(Lp:m.ι b 0=some x){ty:Option (TypeId×Nat)}(hb:Hv.bl[x]?=some (.cells rows (width c) ty))(h:RT m c l rows):RB m Hv b (.cells c l):=
 ⟨hlen,.inr ⟨x,rows,ty,Lp,hb,Ph h.1.symm,h.2⟩⟩
theorem RH.Ds(hh:RH m H Hv){c:CT}{l:List (Fb c)}{rows:List (List V.AV)}(h:RT m c l rows){zl:Nat}(hz:zl=width c){ty:Option (TypeId×Nat)}:gq m Hv (.all H.bl.length) (U.push H (.cells c l)) (.sl Hv.bl.length 0 l.length) (V.push Hv (.cells rows zl ty)):=by
 subst hz;have ze:=hh.new (y:= .cells c l) (yv:= .cells rows (width c) ty) (n:=l.length) (RT.block (yd _ _ _ _) (ae _ _ _ _) (by rw[Ie,if_neg (by omega),if_pos rfl]) (h.mono (tO hh _ _)));refine⟨_,ze.1,?_,ze.2.1,ze.2.2⟩;have:=RV.all (m:=m.add H.bl.length (some Hv.bl.length) l.length) H.bl.length Hv.bl.length (ae _ _ _ _);rw[yd]at this;exact this
theorem sr{t e:TypeId}{c:CT}{x:Fb c}(h:elemOf A t=some ⟨c,x⟩)(he:V.elem? A t=some e):∃z,zero A e=some z/\xI c z=some x/\0<z.length/\V.size A e=some z.length/\width c=z.length:=by
 simp only[elemOf,he,ga,aa]at h;obtain⟨z,hz,c',hc,x',hx,h⟩:=h;split at h
 ·rename_i h1;simp only[zc,Sigma.mk.injEq]at h;obtain⟨rfl,h2⟩:=h;have h2:=eq_of_heq h2;subst h2;exact⟨z,hz,hx,h1⟩
 ·simp at h
theorem dw{zl:Nat}:∀{ps:List (Nat×UV)}{qs:List (Nat×V.AV)}{rows zn:List (List UV)}{Wd:List (List V.AV)},Se rows ps=some zn->RP m ps qs->Wd.length=rows.length->
  (∀(i:Nat)(row:List UV)(Jb:List V.AV),rows[i]?=some row->Wd[i]?=some Jb->RL m row Jb/\row.length=zl)->
  ∃jB,V.Se Wd qs=some jB/\jB.length=zn.length/\zn.length=rows.length/\∀(i:Nat)(row:List UV)(Jb:List V.AV),zn[i]?=some row->jB[i]?=some Jb->RL m row Jb/\row.length=zl
 |[],qs,rows,zn,Wd,h,hp,hl,hr=>by
  simp[Se]at h;subst h;have:qs=[]:=by have:=hp.1;simpa using this
  subst this;exact⟨Wd,rfl,hl,rfl,hr⟩
 |(i,x)::ps,qs,rows,zn,Wd,h,hp,hl,hr=>by
  obtain⟨a,U8,rfl,hx,DL⟩:=hp.cons;simp only[Se,aa]at h;obtain⟨cs,mj,KR,q9,h⟩:=h;split at h
  case isFalse=>simp at h
  rename_i hc;obtain⟨Oh,q1,q2⟩:=Dt mj hx;have hi:=Xa q9;have HW:=Aa (l:=Wd) (i:=i) (by omega);obtain⟨k1,k2⟩:=hr i KR _ q9 HW;obtain⟨jB,j1,j2,j3,j4⟩:=dw (zl:=zl) (Wd:=Wd.set i Oh) h DL (by simp[hl]) (fun j row Jb e1 e2=>by
   rw[Ob]at e1 e2;by_cases e:i=j
   ·subst e;simp[hi]at e1;rw[if_pos rfl,if_pos (by omega)]at e2;simp at e2;subst e1;subst e2;exact⟨q2,by omega⟩
   ·rw[if_neg e]at e1 e2;exact hr j row Jb e1 e2)
  refine⟨jB,?_,j2,by rw[j3];simp,j4⟩;simp only[V.Se,q1,ga,HW];rw[if_pos (by rw[q2.1,k1.1];exact hc)];exact j1
theorem Jm{c:CT}:∀{ps:List (Nat×UV)}{i:Nat}{H H':UH}{L:List (List (Fb c))},Ch c i ps H=some (L,H')->H'.wm=H.wm
 |[],i,H,H',L,h=>by simp[Ch]at h;rw[h.2]
 |(j,x)::ps,i,H,H',L,h=>by
  simp only[Ch]at h;split at h
  case isFalse=>simp at h
  split at h
  ·simp only[aa]at h;obtain⟨⟨l,H1⟩,h1,h⟩:=h;simp at h;rw[<- h.2];exact Jm h1
  ·simp only[aa]at h;obtain⟨⟨l,H1⟩,h1,h⟩:=h;simp at h;rw[<- h.2];exact Jm h1
  ·split at h
   ·split at h
    ·simp only[aa]at h;obtain⟨⟨l,H1⟩,h1,h⟩:=h;simp at h;rw[<- h.2];exact(Jm h1).trans rfl
    ·simp at h
   ·simp at h
  ·simp at h
theorem Pw{c:CT}{Hv:V.AH}{m:Mp}:∀{ps:List (Nat×UV)}{i:Nat}{H H':UH}{L:List (List (Fb c))}{qs:List (Nat×V.AV)},Ch c i ps H=some (L,H')->RH m H Hv->RP m ps qs->
  L.length=qs.length/\RH m H' Hv/\(∀b,live H' b->live H b)/\(∀r q,qs[r]?=some q->q.1=i+r/\q.2.cells?=some [q.2])/\
  ∃F:Nat->Option Nat,(∀r x,F r=some x->r<L.length/\∃b,m.ι b 0=some x/\H.wm<=b/\live H b/\¬live H' b)/\(∀r r' x,F r=some x->F r'=some x->r=r')/\∀r q,qs[r]?=some q->Ul m Hv (F r) c (L.getD r []) q.2
 |[],i,H,H',L,qs,h,hh,hp=>by
  simp[Ch]at h;obtain⟨rfl,rfl⟩:=h;have:qs=[]:=by have:=hp.1;simpa using this
  subst this;exact⟨rfl,hh,fun _ h=>h,fun r q h=>by simp at h,fun _=>none,fun r x h=>by simp at h,fun r r' x h=>by simp at h,fun r q h=>by simp at h⟩
 |(j,x)::ps,i,H,H',L,qs,h,hh,hp=>by
  obtain⟨a,U8,rfl,hx,DL⟩:=hp.cons;simp only[Ch]at h;split at h
  case isFalse=>simp at h
  rename_i hj;subst hj;have fin:∀{l0:List (Fb c)}{l:List (List (Fb c))}{H0 H1:UH}{o:Option Nat},Ch c (j+1) ps H0=some (l,H1)->RH m H0 Hv->(∀b,live H0 b->live H b)->H0.wm=H.wm->(∀y,o=some y->∃b,m.ι b 0=some y/\H.wm<=b/\live H b/\¬live H0 b)->a.cells?=some [a]->Ul m Hv o c l0 a->l0::l=L->H1=H'->
    (L.length=((j,a)::U8).length/\RH m H' Hv/\(∀b,live H' b->live H b)/\(∀r q,((j,a)::U8)[r]?=some q->q.1=j+r/\q.2.cells?=some [q.2])/\
    ∃F:Nat->Option Nat,(∀r x,F r=some x->r<L.length/\∃b,m.ι b 0=some x/\H.wm<=b/\live H b/\¬live H' b)/\(∀r r' x,F r=some x->F r'=some x->r=r')/\∀r q,((j,a)::U8)[r]?=some q->Ul m Hv (F r) c (L.getD r []) q.2):=fun{l0 l H0 H1 o}h1 D9 UJ eP ho hca jd hL hH=>by
   subst hL;subst hH;obtain⟨k1,k2,k3,k4,F,k5,k6,k7⟩:=Pw h1 D9 DL;refine⟨by simp[k1],k2,fun b hb=>UJ b (k3 b hb),fun r q hq=> ?_,fun r=>match r with|0=>o|r+1=>F r,fun r y hy=> ?_,fun r r' y hy Tf=> ?_,fun r q hq=> ?_⟩
   ·cases r with
    |zero=>simp at hq;subst hq;exact⟨rfl,hca⟩
    |succ r=>have:=k4 r q (by simpa using hq);exact⟨by omega,this.2⟩
   ·cases r with
    |zero=>
     obtain⟨b,b1,b2,b3,b4⟩:=ho y hy;exact⟨by simp,b,b1,b2,b3,fun hb=>b4 (k3 b hb)⟩
    |succ r=>
     obtain⟨c1,b,b1,b2,b3,b4⟩:=k5 r y hy;exact⟨by simp;omega,b,b1,by rw[<- eP];exact b2,UJ b b3,b4⟩
   ·have Y_:∀r,o=some y->F r=some y->False:=fun r h1 h2=>by
     obtain⟨b,b1,b2,b3,b4⟩:=ho y h1;obtain⟨_,b',b1',b2',b3',b4'⟩:=k5 r y h2;have:=hh.inj b b' y b3 (UJ b' b3') b1 b1';subst this;exact b4 b3'
    cases r with
    |zero=>
     cases r' with
     |zero=>rfl
     |succ r'=>exact(Y_ r' hy Tf).elim
    |succ r=>
     cases r' with
     |zero=>exact(Y_ r Tf hy).elim
     |succ r'=>rw[k6 r r' y hy Tf]
   ·cases r with
    |zero=>simp at hq;subst hq;exact jd
    |succ r=>exact k7 r q (by simpa using hq)
  split at h
  ·simp only[aa]at h;obtain⟨⟨l,H1⟩,h1,h⟩:=h;simp at h;cases hx;exact fin (l0:=[]) (o:=none) h1 hh (fun _ h=>h) rfl (fun y h=>by simp at h) rfl (.inl ⟨rfl,rfl,.inl rfl⟩) h.1 h.2
  ·simp only[aa]at h;obtain⟨⟨l,H1⟩,h1,h⟩:=h;simp at h;cases hx;exact fin (l0:=[]) (o:=none) h1 hh (fun _ h=>h) rfl (fun y h=>by simp at h) rfl (.inl ⟨rfl,rfl,.inr rfl⟩) h.1 h.2
  ·rename_i b;split at h
   case h_2=>simp at h
   rename_i c' l0 hb;split at h
   case isFalse=>simp at h
   rename_i hc;obtain⟨rfl,mF⟩:=hc;simp only[aa]at h;obtain⟨⟨l,H1⟩,h1,h⟩:=h;simp at h;obtain⟨k0,kx⟩:=yc (s:=⟨[],[],H,0⟩) (sv:=⟨[],[],Hv⟩) hh hb;have Yd:live H b:=⟨_,hb,rfl⟩;have Wj:∀b',live (Sa H b .dead) b'->b'≠b/\live H b':=fun b' h=>by
    rcases qg h with⟨_,h'⟩|h'
    ·simp[Xd]at h'
    ·exact h'
   cases hx with
   |all _ x hx0=>
    obtain⟨rows,ty,k2,k3,k4⟩:=kx x hx0;exact fin (l0:=l0) (o:=some x) h1 (hh.kill b) (fun b' h=>(Wj b' h).2) rfl (fun y e=>by simp at e;subst e;exact⟨b,hx0,mF,Yd,fun hb=>(Wj b hb).1 rfl⟩) rfl (.inr ⟨x,rows,ty,rfl,by rw[k0],k2,k3,k4⟩) h.1 h.2
   |Wf _ _ _ hl ha=>exact fin (l0:=l0) (o:=none) h1 (hh.kill b) (fun b' h=>(Wj b' h).2) rfl (fun y e=>by simp at e) (by rcases ha with rfl|rfl<;>rfl) (.inl ⟨by rw[<- k0];exact hl,rfl,ha⟩) h.1 h.2
  ·simp at h
theorem ew{z:List V.AV}(hz:z.length=1):∀{qs:List (Nat×V.AV)}{pre:List (List V.AV)},(∀r q,qs[r]?=some q->q.1=pre.length+r/\q.2.cells?=some [q.2])->V.Se (pre++Ba qs.length z) qs=some (pre++qs.map fun q=>[q.2])
 |[],pre,_=>by simp[V.Se]
 |(j,a)::qs,pre,h=>by
  obtain⟨h1,h2⟩:=h 0 (j,a) rfl;simp only[ve]at h1 h2;subst h1;have hg:(pre++Ba (qs.length+1) z)[pre.length]?=some z:=by simp[Qa,Wi]
  have hs:(pre++Ba (qs.length+1) z).set pre.length [a]=(pre++[[a]])++Ba qs.length z:=by
   rw[List.set_append_right _ _ (va _),Nat.sub_self,List.replicate_succ,List.set_cons_zero,td];rfl
  have ih:=ew hz (qs:=qs) (pre:=pre++[[a]]) fun r q hq=>by
   obtain⟨k1,k2⟩:=h (r+1) q (by simpa using hq);exact⟨by simp;omega,k2⟩
  simp only[V.Se,h2,ga,List.length_cons,hg];rw[if_pos (by simp[hz]),hs,ih]
  simp
theorem ur{t:TypeId}{n:Nat}{ps:List (Nat×UV)}{qs:List (Nat×V.AV)}{v:UV}(h:buildSlice A H t n ps=some (v,H'))(hh:RH m H Hv)(hp:RP m ps qs):∃a Lc,V.buildSlice A Hv t n qs=some (a,Lc)/\gq m Hv v H' a Lc:=by
 simp only[buildSlice,aa]at h;obtain⟨e,he,z,hz,⟨c,x0⟩,nV,h⟩:=h;obtain⟨z0,hz0,hd0,Ff,se,E4⟩:=sr nV he;rw[hz]at hz0;simp at hz0;subst hz0;obtain⟨z',q1,q2,q3⟩:=jq hz;have nA:z'.length=z.length:=(q2 m).1;simp only at h;split at h
 case isFalse=>simp at h
 rename_i hc;unfold V.buildSlice;simp only[he,q1,ga];rw[if_pos (by rw[nA];exact⟨hc,Ff,se⟩)];have hql:qs.length=ps.length:=by have:=congrArg da hp.1;simpa using this
 split at h
 ·rename_i h0;simp at h;obtain⟨rfl,rfl⟩:=h;rw[if_pos (by rw[hql];exact h0)];exact⟨_,_,rfl,.same hh .Pd⟩
 ·rename_i h0;rw[if_neg (by rw[hql];exact h0)];split at h
  ·rename_i r0 M4;simp at h;subst h;unfold eO at M4;split at M4
   case h_2=>simp at M4
   rename_i c1 x1 Iab;rw[nV]at Iab;simp at Iab;obtain⟨rfl,_⟩:=Iab;split at M4
   case isFalse=>simp at M4
   rename_i hcn;obtain⟨hlen,kaq⟩:=hcn;simp only[aa]at M4;obtain⟨⟨L,H1⟩,hdr,M4⟩:=M4;simp at M4;obtain⟨rfl,rfl⟩:=M4;obtain⟨k1,k2,k3,k4,F,k5,k6,k7⟩:=Pw hdr hh hp;have dV:z'.length=1:=by rw[nA,<- E4];rfl
   have WW:=ew dV (qs:=qs) (pre:=[]) (fun r q hq=>by obtain⟨j1,j2⟩:=k4 r q hq;exact⟨by simpa using j1,j2⟩);simp only[List.nil_append]at WW;rw[hql,hlen]at WW;have ze:=k2.NO (c:=c1) (L:=L) (rows:=qs.map fun q=>[q.2]) (ty:=some (e,1)) (F:=F) (by simp[k1]) (fun r x h=>by
     obtain⟨_,b,b1,b2,b3,b4⟩:=k5 r x h;exact⟨⟨b,0,b1⟩,hh.wm b x b1 b2,fun b' s' Zf e'=>b4 ((hh.inj b' b x (k3 b' Zf) b3 e' b1) ▸ Zf)⟩) k6
    (fun r hr=>by
     cases hf:F r with
     |none=>rfl
     |some x=>have:=(k5 r x hf).1;omega) (fun r hr=>by
     have hq:=Aa (l:=qs) (i:=r) (by omega);exact⟨_,by rw[Wb,hq];rfl,k7 r _ hq⟩)
   have hLn:L.length=n:=by rw[k1,hql,hlen]
   rw[hLn]at ze;exact⟨.sl Hv.bl.length 0 n,V.push Hv (.cells (qs.map fun q=>[q.2]) z'.length (some (e,1))),by rw[WW];rfl,by rw[dV];exact ze⟩
  simp only[aa]at h;obtain⟨rows,Nc,l,hl,h⟩:=h;simp at h;obtain⟨rfl,rfl⟩:=h;obtain⟨Wd,k1,k2,k3,k4⟩:=dw (zl:=z.length) (Wd:=Ba n z') Nc hp (by simp) (fun i row Jb e1 e2=>by
   rw[Wi]at e1 e2;split at e1
   ·rename_i hi;rw[if_pos hi]at e2;simp at e1 e2;subst e1;subst e2;exact⟨q2 m,rfl⟩
   ·simp at e1)
  obtain⟨d1,d2⟩:=mL (m:=m) hl;have hn:rows.length=n:=by rw[k3];simp
  have kV:RT m c l Wd:= .of (by rw[k2,d1]) fun i row hi hr=>by
   have y6:=Aa (l:=rows) (i:=i) (by omega);exact d2 i _ y6 (k4 i _ row y6 hr).1
  have iD:l.length=n:=by rw[d1,hn]
  have:=hh.Ds kV (zl:=z'.length) (by rw[nA,E4]) (ty:=some (e,1));rw[iD]at this;exact⟨.sl Hv.bl.length 0 n,V.push Hv (.cells Wd z'.length (some (e,1))),by simp[k1],this⟩
theorem yD{t:TypeId}{l c:UV}{K:UV->UH->Option X}(h:makeSlice A H t l c K=some out):
  ∃v H',K v H'=some out/\H'.wm=H.wm/\∀(m:Mp)(Hv:V.AH)(l' c':V.AV),RH m H Hv->RV m l l'->RV m c c'->∃a Lc,V.makeSlice A Hv t l' c'=some (a,Lc)/\gq m Hv v H' a Lc:=by
 unfold makeSlice at h;split at h
 case h_2=>simp at h
 rename_i k1 l0 k2 c0;simp only[aa]at h;obtain⟨e,he,⟨ct,x0⟩,nV,n,hn,h⟩:=h;obtain⟨z,hz,hd0,Ff,se,E4⟩:=sr nV he;obtain⟨h0,h⟩:=Ad h;simp only[Na,decide_eq_true_eq]at h0;refine⟨_,_,h,rfl,fun m Hv l' c' hh hl Wz=> ?_⟩;cases hl;cases Wz;obtain⟨z',q1,q2,q3⟩:=jq hz;have nA:z'.length=z.length:=(q2 m).1;have kV:RT m ct (Ba l0.toNat x0) (Ba l0.toNat z'):= .of (by simp) fun i row hi hr=>by
  rw[Jf]at hi;rw[Wi,if_pos hi]at hr;simp at hr;subst hr;have:vw ct (Ba l0.toNat x0) i=enc ct x0:=by simp[vw,Ka,Wi,hi]
  rw[this];exact fo hd0 (q2 m)
 have:=hh.Ds kV (zl:=z'.length) (by rw[nA,E4]) (ty:=some (e,1));rw[Jf]at this;refine⟨.sl Hv.bl.length 0 l0.toNat,V.push Hv (.cells (Ba l0.toNat z') z'.length (some (e,1))),?_,this⟩;simp only[V.makeSlice,he,q1,hn,ga];rw[if_pos ⟨h0.1.1.1,h0.1.1.2,h0.1.2,h0.2,by rw[nA];exact Ff,by rw[nA];exact se⟩]
theorem RC(m:Mp)(s:ByteArray):RT m (.int .u8) (mO s) (V.jc s):=by
 refine .of (by simp only[V.jc,Oc];exact(Oc ..).symm) fun i row hi hr=> ?_
 simp only[V.jc,Wb,ia]at hr;obtain⟨b,hb,rfl⟩:=hr;have h1:(mO s)[i]?=some ((b.toNat:Nat):Int):=by
  simp only[mO,Wb,hb,Mc]
 have h2:vw (.int .u8) (mO s) i=[.int .u8 ((b.toNat:Nat):Int)]:=
  congrArg (fun o:Option Int=>[UV.int .u8 (o.getD 0)]) h1
 rw[h2];exact .cons (.int _ _) .nil
theorem Jh{y:UV}{c:CT}{g:List (Fb c)}{a:V.AV}(h:rowsOf H c y=some g)(hh:RH m H Hv)(hy:RV m y a):∃rows,vo Hv a=some rows/\RT m c g rows:=by
 cases hy with
 |lit c' l rows h1 h2 h3=>
  simp only[rowsOf]at h;split at h
  case isFalse=>simp at h
  rename_i hc;subst hc;simp at h;subst h;exact⟨rows,rfl,h1,fun i _=>⟨Af _ _ _,Vd _ _ _⟩,fun i row _=>h2 i row,fun i row k x a _=>h3 i row k x a⟩
 |ri c' a ha=>
  simp only[rowsOf]at h;split at h
  case isFalse=>simp at h
  rename_i hc;subst hc;simp at h;subst h;exact⟨[],by rcases ha with rfl|rfl<;>rfl,.nil⟩
 |all b x hx=>
  simp only[rowsOf]at h;split at h
  case h_2=>simp at h
  rename_i c' l hb;split at h
  case isFalse=>simp at h
  rename_i hc;subst hc;simp at h;subst h;obtain⟨k0,k1⟩:=yc (s:=⟨[],[],H,0⟩) (sv:=⟨[],[],Hv⟩) hh hb;obtain⟨rows,ty,k2,k3,k4⟩:=k1 x hx;have jS:Hv.bl[x]?=some (.cells rows (width c') ty):=k2;refine⟨rows.take l.length,?_,.of (by simp;omega) fun i row hi hr=> ?_⟩
  ·show V.rowsOf Hv (.sl x 0 (m.len b 0))=_;simp only[V.rowsOf,jS];rw[if_pos (by omega),k0];simp
  ·rw[Cb,if_pos hi]at hr;obtain⟨Jb,j1,j2,j3⟩:=k4.row k3 hi;rw[j1]at hr;simp at hr;subst hr;exact j2
 |Wf b a tc hl ha=>
  simp only[rowsOf]at h;split at h
  case h_2=>simp at h
  rename_i c' l hb;split at h
  case isFalse=>simp at h
  rename_i hc;subst hc;simp at h;subst h;obtain⟨k0,k1⟩:=yc (s:=⟨[],[],H,0⟩) (sv:=⟨[],[],Hv⟩) hh hb;have:l=[]:=by rw[hl]at k0;exact Ja.1 k0.symm
  subst this;exact⟨[],by rcases ha with rfl|rfl<;>rfl,.nil⟩
 |sl b r n0 x hx hle=>
  simp only[rowsOf]at h;split at h
  case h_2=>simp at h
  rename_i c' l hb;split at h
  case isFalse=>simp at h
  rename_i hc;subst hc;simp at h;subst h;obtain⟨k0,k1⟩:=yc (s:=⟨[],[],H,0⟩) (sv:=⟨[],[],Hv⟩) hh hb;obtain⟨rows,ty,k2,k3,k4⟩:=k1 x hx;have jS:Hv.bl[x]?=some (.cells rows (width c') ty):=k2;have mP:RT m c' l (rows.take l.length):= .of (by simp;omega) fun i row hi hr=>by
   rw[Cb,if_pos hi]at hr;obtain⟨Jb,j1,j2,j3⟩:=k4.row k3 hi;rw[j1]at hr;simp at hr;subst hr;exact j2
  refine⟨(rows.drop r).take n0,?_,?_⟩
  ·show V.rowsOf Hv (.sl x r n0)=_;simp only[V.rowsOf,jS];rw[if_pos (by omega)]
  ·rw[Ek];have:=(mP.drop r).take n0;rw[List.drop_take,List.take_take,Nat.min_eq_left (by omega)]at this;exact this
 |Qp b r x hx=>
  simp only[rowsOf]at h;split at h
  case h_2=>simp at h
  rename_i c' l hb;split at h
  case isFalse=>simp at h
  rename_i hc;subst hc;have h:some (l.getD r [])=some g:=h;injection h with h
  subst h;obtain⟨_,k1,_⟩:=Ud (s:=⟨[],[],H,0⟩) (sv:=⟨[],[],Hv⟩) hh hb;obtain⟨XG,rows,ty,k2,k3,k4⟩:=Ow (s:=⟨[],[],H,0⟩) (sv:=⟨[],[],Hv⟩) hh hb hx;have jS:Hv.bl[x]?=some (.cells rows (width c') ty):=k2;refine⟨rows.take (l.getD r []).length,?_,.of (by rw[Nb];omega) fun i row hi hr=> ?_⟩
  ·show V.rowsOf Hv (.sl x 0 (m.len b (r+1)))=_;simp only[V.rowsOf,jS];rw[k1 r,if_pos (by omega)];simp
  ·rw[Cb,if_pos hi]at hr;obtain⟨Jb,j1,j2,j3⟩:=k4.row k3 hi;rw[j1]at hr;simp at hr;subst hr;exact j2
 |Ju b r a tc hl ha=>
  simp only[rowsOf]at h;split at h
  case h_2=>simp at h
  rename_i c' l hb;split at h
  case isFalse=>simp at h
  rename_i hc;subst hc;have h:some (l.getD r [])=some g:=h;injection h with h
  subst h;obtain⟨_,k1,_⟩:=Ud (s:=⟨[],[],H,0⟩) (sv:=⟨[],[],Hv⟩) hh hb;have:l.getD r []=[]:=by rw[k1 r]at hl;exact Ja.1 hl
  rw[this];exact⟨[],by rcases ha with rfl|rfl<;>rfl,.nil⟩
 |Vt b r a ha=>
  simp only[rowsOf]at h;split at h
  case h_2=>simp at h
  rename_i c' l hb;split at h
  case isFalse=>simp at h
  rename_i hc;subst hc;simp at h;subst h;exact⟨[],by rcases ha with rfl|rfl<;>rfl,by rw[Ek];exact .nil⟩
 |str s=>
  simp only[rowsOf]at h;split at h
  case isFalse=>simp at h
  rename_i hc;subst hc;injection h with h
  subst h;exact⟨V.jc s,rfl,RC m s⟩
 |_=>simp[rowsOf]at h
def K8(m:Mp)(H:UH)(Hv:V.AH)(x:Nat):Prop:=(∃b s,m.ι b s=some x)/\Hv.wm<=x/\∀b s,live H b->m.ι b s≠some x
theorem eG(hh:RH m H Hv){c:CT}{f g:List (List (Fb c))}{xs ys:List (List V.AV)}{Fx Fy:Nat->Option Nat}{ty:Option (TypeId×Nat)}(G6:xs.length=f.length)(hgy:ys.length=g.length)
  (hFx:∀r x,r<f.length->Fx r=some x->K8 m H Hv x) (hFy:∀r x,Fy r=some x->K8 m H Hv x) (Of:∀r r' x,r<f.length->r'<f.length->Fx r=some x->Fx r'=some x->r=r') (hyi:∀r r' x,Fy r=some x->Fy r'=some x->r=r')
  (hxy:∀r r' x,r<f.length->Fx r=some x->Fy r'≠some x) (hyo:∀r,g.length<=r->Fy r=none) (hrx:∀r,r<f.length->∃a,xs[r]?=some [a]/\Ul m Hv (Fx r) c (f.getD r []) a) (hry:∀r,r<g.length->∃a,ys[r]?=some [a]/\Ul m Hv (Fy r) c (g.getD r []) a):
  gq m Hv (.all H.bl.length) (push H (.deep c (f++g))) (.sl Hv.bl.length 0 (f++g).length) (V.push Hv (.cells (xs++ys) 1 ty)):=by
 have hF:∀r x,(if r<f.length then Fx r else Fy (r-f.length))=some x->K8 m H Hv x:=fun r x h=>by
  split at h
  ·rename_i hr;exact hFx r x hr h
  ·exact hFy _ x h
 refine hh.NO (F:=fun r=>if r<f.length then Fx r else Fy (r-f.length)) (by simp[G6,hgy]) hF (fun r r' x h1 h2=> ?_) (fun r hr=> ?_) (fun r hr=> ?_)
 ·split at h1<;>split at h2
  ·rename_i a b;exact Of r r' x a b h1 h2
  ·rename_i a b;exact(hxy r _ x a h1 h2).elim
  ·rename_i a b;exact(hxy r' _ x b h2 h1).elim
  ·have:=hyi _ _ x h1 h2;omega
 ·rw[qd]at hr;rw[if_neg (by omega)];exact hyo _ (by omega)
 ·rw[qd]at hr;by_cases h:r<f.length
  ·obtain⟨a,k1,k2⟩:=hrx r h;refine⟨a,by rw[La (by omega)];exact k1,?_⟩;rw[if_pos h];simp only[Ka]at k2 ⊢;rw[La h];exact k2
  ·obtain⟨a,k1,k2⟩:=hry (r-f.length) (by omega);refine⟨a,by rw[Qa (by omega),G6];exact k1,?_⟩;rw[if_neg h];simp only[Ka]at k2 ⊢;rw[Qa (by omega)];exact k2
theorem cO{y:UV}{b:Nat}{c:CT}{a:List (Fb c)}{l:List (List (Fb c))}(h:V2 H y=some (b,⟨c,a,l⟩)):y= .all b/\H.bl[b]?=some (.deep c (a::l))/\H.wm<=b:=by
 unfold V2 at h;split at h
 ·rename_i b0;split at h
  ·rename_i c0 a0 l0 hb;split at h
   ·rename_i hw;simp only[zc,Prod.mk.injEq,Sigma.mk.injEq]at h;obtain⟨rfl,rfl,h⟩:=h;have h:=eq_of_heq h;simp only[Prod.mk.injEq]at h;obtain⟨rfl,rfl⟩:=h;exact⟨rfl,hb,hw⟩
   ·simp at h
  ·simp at h
 ·simp at h
theorem dO{x:UV}{b:Nat}{c:CT}{f:List (List (Fb c))}{H0:UH}(h:X2 H c b x=some (f,H0)):
  ((x= .Ya\/x= .Pd)/\f=[]/\H0=Sa H b .dead)\/∃b1,x= .all b1/\H.bl[b1]?=some (.deep c f)/\b1≠b/\H.wm<=b1/\H0=Sa (Sa H b1 .dead) b .dead:=by
 unfold X2 at h;split at h
 ·simp at h;exact .inl ⟨.inl rfl,h.1.symm ▸ rfl,h.2.symm⟩
 ·simp at h;exact .inl ⟨.inr rfl,h.1.symm ▸ rfl,h.2.symm⟩
 ·rename_i b1;split at h
  ·rename_i c' l hb;split at h
   ·rename_i hc;obtain⟨rfl,h1,h2⟩:=hc;simp at h;obtain⟨rfl,rfl⟩:=h;exact .inr ⟨b1,rfl,hb,h1,h2,rfl⟩
   ·simp at h
  ·simp at h
 ·simp at h
theorem qO{ts:Array TypeId}{x y:UV}{K:UV->UH->Option X}(h:append A H ts x y K=some out):
  ∃v H',K v H'=some out/\H'.wm=H.wm/\∀(m:Mp)(Hv:V.AH)(x' y':V.AV),RH m H Hv->RV m x x'->RV m y y'->∃a Lc,V.append A Hv ts x' y'=some (a,Lc)/\gq m Hv v H' a Lc:=by
 simp only[append,aa]at h;obtain⟨t,ht,e,he,⟨c,x0⟩,nV,nb,hnb,_,BD,h⟩:=h;obtain⟨z,hz,hd0,Ff,se,E4⟩:=sr nV he;obtain⟨z',q1,q2,q3⟩:=jq hz;have nA:z'.length=z.length:=(q2 ⟨fun _ _=>none,fun _ _=>0,0⟩).1;simp only at h;have Cp:∀(Hv:V.AH)(x' y':V.AV)(xs ys:List (List V.AV)),V.rowsOf Hv x'=some xs->vo Hv y'=some ys->
   (xs.length+ys.length) * nb<=70368744177664->xs.length+ys.length<9223372036854775808->(∀r∈ys,r.length=width c)->
   V.append A Hv ts x' y'=if ys.length=0 then some (x',Hv)else Ou Hv x' xs ys z'.length e:=fun Hv x' y' xs ys h1 h2 h3 h4 h5=>by
  unfold V.append;simp only[ht,he,q1,hnb,ga];have fin:(V.rowsOf Hv x').bind (fun xs=>(vo Hv y').bind fun ys=>
   if(xs.length+ys.length) * nb<=70368744177664/\xs.length+ys.length<9223372036854775808/\0<z'.length/\V.size A e=some z'.length/\ys.all (fun r=>r.length==z'.length)then
    if ys.length=0 then some (x',Hv)else Ou Hv x' xs ys z'.length e
   else none)=if ys.length=0 then some (x',Hv)else Ou Hv x' xs ys z'.length e:=by
   rw[h1,ga,h2,ga,if_pos ⟨h3,h4,by rw[nA];exact Ff,by rw[nA];exact se,ic.2 fun r hr=>by simp[nA,<- E4];exact h5 r hr⟩]
  cases ID:ts[1]? with
  |none=>exact fin
  |some u=>
   rw[ID]at BD;cases hu:A.P.underlying u with
   |none=>simp[hu]at BD
   |some d=>
    simp only[hu]at BD;simp only[hu];cases d<;>first|exact fin|(simp at BD)
 have hzw:z'.length=width c:=by rw[nA,E4]
 have Fj:∀{y:UV},(y= .Ya\/y= .Pd)->(x= .Ya\/x= .Pd)->K x H=some out->∃v H',K v H'=some out/\H'.wm=H.wm/\∀(m:Mp)(Hv:V.AH)(x' y':V.AV),RH m H Hv->RV m x x'->RV m y y'->∃a Lc,V.append A Hv ts x' y'=some (a,Lc)/\gq m Hv v H' a Lc:=fun{y}hy hx h=>by
  refine⟨x,H,h,rfl,fun m Hv x' y' hh dP pS=> ?_⟩;have Yx:vo Hv y'=some []:=by rcases hy with rfl|rfl<;>cases pS<;>rfl
  have Hs:V.rowsOf Hv x'=some []:=by rcases hx with rfl|rfl<;>cases dP<;>rfl
  exact⟨x',Hv,by rw[Cp Hv x' y' [] [] Hs Yx (by simp) (by simp) (by simp)];rfl,.same hh dP⟩
 have X8:∀{m:Mp}{H0:UH}{Hv:V.AH}{x' y':V.AV}{g:List (Fb c)}{ys:List (List V.AV)},RH m H0 Hv->(x'= .Ya\/x'= .Pd)->vo Hv y'=some ys->RT m c g ys->
   g.length * nb<=70368744177664->g.length<9223372036854775808->∃a Lc,V.append A Hv ts x' y'=some (a,Lc)/\gq m Hv (.all H0.bl.length) (push H0 (.cells c g)) a Lc:=fun{m H0 Hv x' y' g ys}hh eV k1 k2 h1 h2=>by
  have Hs:V.rowsOf Hv x'=some []:=by rcases eV with rfl|rfl<;>rfl
  have hv:=Cp Hv x' y' [] ys Hs k1 (by simpa[k2.1]using h1) (by simpa[k2.1]using h2) (fun r hr=>k2.rows hr);by_cases NW:g.length=0
  ·rw[if_pos (by rw[k2.1];exact NW)]at hv;have hp:=hh.push (Lc:=Hv) (y:= .cells c g) (x:=none) (n:=0) (fun _ _ _ _ _=>rfl) (va _) rfl (fun xv e=>by simp at e) ⟨by rw[yd];exact NW.symm,.inl ⟨NW,ae _ _ _ _⟩⟩;refine⟨x',Hv,hv,_,hp.1,.Wf _ x' (by simp[Mp.add,Mp.Zi]) (yd _ _ _ _) eV,hp.2,⟨Kg hh _ _,fun _ _ _=>rfl,fun b _ xv hb=> ?_,va _,rfl⟩⟩;by_cases e:b=H0.bl.length
   ·subst e;obtain⟨_,e⟩:=Ti hb;simp at e
   ·rw[Cf _ _ _ e]at hb;exact .inl ⟨b,_,hb⟩
  ·rw[if_neg (by rw[k2.1];exact NW)]at hv;refine⟨.sl Hv.bl.length 0 g.length,V.push Hv (.cells ys z'.length (some (e,1))),?_,hh.Ds k2 hzw⟩;rw[hv];rcases eV with rfl|rfl<;>simp[Ou,k2.1]
 have C6:∀{g:List (Fb c)},(x= .Ya\/x= .Pd)->rowsOf H c y=some g->ask (decide (g.length * nb<=70368744177664)&&decide (g.length<9223372036854775808)) (K (.all H.bl.length) (push H (.cells c g)))=some out->
   ∃v H',K v H'=some out/\H'.wm=H.wm/\∀(m:Mp)(Hv:V.AH)(x' y':V.AV),RH m H Hv->RV m x x'->RV m y y'->∃a Lc,V.append A Hv ts x' y'=some (a,Lc)/\gq m Hv v H' a Lc:=fun{g}hx Nc h=>by
  obtain⟨h0,h⟩:=Ad h;simp only[Na,decide_eq_true_eq]at h0;refine⟨_,_,h,rfl,fun m Hv x' y' hh dP pS=> ?_⟩;obtain⟨ys,k1,k2⟩:=Jh Nc hh pS;have eV:x'= .Ya\/x'= .Pd:=by rcases hx with rfl|rfl<;>cases dP<;>simp
  exact X8 hh eV k1 k2 h0.1 h0.2
 have fq:∀{b n0 r0:Nat}{f g:List (Fb c)},(g=[]->r0=0)->H.wm<=b->rowsOf H c x=some f->rowsOf H c y=some g->(∀{m:Mp}{Hv:V.AH}{x':V.AV},RH m H Hv->RV m x x'->n0=f.length/\((∃xi,m.ι b 0=some xi/\x'= .sl xi r0 n0)\/((x'= .Ya\/x'= .Pd)/\f=[])))->(∃c' l',H.bl[b]?=some (.cells c' l')/\c'=c)->
   ask (decide ((n0+g.length) * nb<=70368744177664)&&decide (n0+g.length<9223372036854775808)) (K (.all H.bl.length) (push (Sa H b .dead) (.cells c (f++g))))=some out->
   ∃v H',K v H'=some out/\H'.wm=H.wm/\∀(m:Mp)(Hv:V.AH)(x' y':V.AV),RH m H Hv->RV m x x'->RV m y y'->∃a Lc,V.append A Hv ts x' y'=some (a,Lc)/\gq m Hv v H' a Lc:=fun{b n0 r0 f g}hg0 mF G6 Nc gV⟨c',l',hb,Wz⟩h=>by
  obtain⟨h0,h⟩:=Ad h;simp only[Na,decide_eq_true_eq]at h0;refine⟨_,_,h,rfl,fun m Hv x' y' hh dP pS=> ?_⟩;obtain⟨ys,k1,k2⟩:=Jh Nc hh pS;obtain⟨xs,j1,j2⟩:=Jh G6 hh dP;have Yd:live H b:=⟨_,hb,rfl⟩;have dj:=hh.kill b;have Wj:∀{b'},live (Sa H b .dead) b'->b'≠b/\live H b':=fun h=>by
   rcases qg h with⟨_,h'⟩|h'
   ·simp[Xd]at h'
   ·exact h'
  have hlen:(Sa H b .dead).bl.length=H.bl.length:=by simp[Sa]
  obtain⟨IM,gV⟩:=gV hh dP;rcases gV with⟨xi,Of,rfl⟩|⟨eV,rfl⟩
  ·have j1':V.rowsOf Hv (.sl xi r0 n0)=some xs:=j1;have bag:=hh.wm b xi Of mF;subst Wz;obtain⟨kb,kx⟩:=yc (s:=⟨[],[],H,0⟩) (sv:=⟨[],[],Hv⟩) hh hb;obtain⟨rows,ty,i2,i3,i4⟩:=kx xi Of;have i2':Hv.bl[xi]?=some (.cells rows (width c') ty):=i2;have hv:=Cp Hv (.sl xi r0 n0) y' xs ys j1' k1 (by rw[j2.1,k2.1,<- IM];exact h0.1) (by rw[j2.1,k2.1,<- IM];exact h0.2) (fun r hr=>k2.rows hr);by_cases NW:g.length=0
   ·rw[if_pos (by rw[k2.1];exact NW)]at hv;have eu:g=[]:=Ja.1 NW;have y6:=hg0 eu;subst y6;subst eu;rw[zi];have hp:=dj.push (Lc:=Hv) (y:= .cells c' f) (x:=some xi) (n:=f.length) (fun _ _ _ _ _=>rfl) (va _) rfl (fun xv e=>by
     simp at e;subst e;exact⟨(hh.He b xi Of).2,bag,fun b' s' Zf e'=>(Wj Zf).1 (hh.inj b' b xi (Wj Zf).2 Yd e' Of)⟩) (by
     have lS:=j1';simp only[V.rowsOf,i2']at lS;split at lS
     case isFalse=>simp at lS
     rename_i hle;simp at lS;refine⟨yd _ _ _ _,.inr ⟨xi,rows,ty,ae _ _ _ _,i2',by omega,?_⟩⟩;refine⟨fun i _=>⟨Af _ _ _,Vd _ _ _⟩,fun i row hi hr=> ?_,fun i row k y a hi hr h1 h2=> ?_⟩
     ·have:xs[i]?=some row:=by rw[<- lS,Cb,if_pos (by omega)];exact hr
      exact j2.rows (Db this)
     ·have:xs[i]?=some row:=by rw[<- lS,Cb,if_pos (by omega)];exact hr
      exact((j2.get this).free _ (Vd _ _ _)).2 k y a h1 h2)
    rw[hlen]at hp;refine⟨.sl xi 0 n0,Hv,hv,_,hp.1,?_,hp.2,⟨by have:=Kg dj;simpa only[hlen]using this _ _,fun _ _ _=>rfl,fun b' _ xv ud=> ?_,va _,rfl⟩⟩
    ·have:=RV.all (m:=m.add H.bl.length (some xi) f.length) H.bl.length xi (ae _ _ _ _);rw[yd,<- IM]at this;rw[IM]at this ⊢;exact this
    ·by_cases e:b'=H.bl.length
     ·subst e;obtain⟨_,e⟩:=Ti ud;simp at e;subst e;exact .inl ⟨b,_,Of⟩
     ·rw[Cf _ _ _ e]at ud;exact .inl ⟨b',_,ud⟩
   ·rw[if_neg (by rw[k2.1];exact NW)]at hv;have Ed:=dj.other (x:=xi) (fun b' s' Zf e'=>(Wj Zf).1 (hh.inj b' b xi (Wj Zf).2 Yd e' Of)) .dead;have ze:=Ed.Ds (j2.append k2) (zl:=z'.length) hzw (ty:=V.Iz (V.wG Hv xi) e r0);rw[hlen]at ze;have rS:(V.Sa Hv xi .dead).bl.length=Hv.bl.length:=by simp[V.Sa]
    rw[rS]at ze;obtain⟨m',e1,e2,e3,e4⟩:=ze;have g1:Yj m.top m Hv m (V.Sa Hv xi .dead):=⟨.refl (va _),fun x' Rk wS=>by rw[Ac,if_neg (fun e=>wS b 0 (by rw[<- e];exact Of))],fun b' s' x' ud=> .inl ⟨b',s',ud⟩,by simp[V.Sa],rfl⟩;refine⟨_,_,?_,m',e1,e2,e3,g1.trans e4 (va _)⟩;rw[hv];simp only[Ou];rw[if_pos ⟨bag,by simp only[V.Uj,i2'];rw[hzw]⟩,j2.1,k2.1,qd]
  ·rw[List.nil_append];simp only[Ng]at IM;have:=X8 dj eV k1 k2 (by simpa[IM]using h0.1) (by simpa[IM]using h0.2);rw[hlen]at this;exact this
 have jP:∀{y:UV},(y= .Ya\/y= .Pd)->((rowsOf H c x).bind fun f=>ask (decide (f.length * nb<=70368744177664)&&decide (f.length<9223372036854775808)) (K x H))=some out->(∀s,x≠ .str s)->
   ∃v H',K v H'=some out/\H'.wm=H.wm/\∀(m:Mp)(Hv:V.AH)(x' y':V.AV),RH m H Hv->RV m x x'->RV m y y'->∃a Lc,V.append A Hv ts x' y'=some (a,Lc)/\gq m Hv v H' a Lc:=fun{y}hy h QJ=>by
  simp only[aa]at h;obtain⟨f,hf,h⟩:=h;obtain⟨h0,h⟩:=Ad h;simp only[Na,decide_eq_true_eq]at h0;refine⟨x,H,h,rfl,fun m Hv x' y' hh dP pS=> ?_⟩;have Yx:vo Hv y'=some []:=by rcases hy with rfl|rfl<;>cases pS<;>rfl
  obtain⟨xs,j1,j2⟩:=Jh hf hh dP;have j1':V.rowsOf Hv x'=some xs:=by
   cases x'<;>first|exact j1|skip
   cases dP with
   |str=>exact(QJ _ rfl).elim
   |Sb=>simp[rowsOf]at hf
   |Vt _ _ _ ha=>simp at ha
   |Wf _ _ _ _ ha=>simp at ha
   |Ju _ _ _ _ _ ha=>simp at ha
   |ri _ _ ha=>simp at ha
  exact⟨x',Hv,by rw[Cp Hv x' y' xs [] j1' Yx (by simpa[j2.1]using h0.1) (by simpa[j2.1]using h0.2) (by simp)];rfl,.same hh dP⟩
 split at h
 ·rename_i b c' a l hdy;split at h
  case isFalse=>simp at h
  rename_i mj;simp only[aa]at h;obtain⟨⟨f,H0⟩,hX,h⟩:=h;obtain⟨h0,h⟩:=Ad h;simp only[Na,decide_eq_true_eq]at h0;obtain⟨rfl,hb,mF⟩:=cO hdy;have hX:=dO hX;refine⟨_,_,h,by rcases hX with⟨_,_,rfl⟩|⟨_,_,_,_,_,rfl⟩<;>rfl,fun m Hv x' y' hh dP pS=> ?_⟩;obtain⟨k0,k1,kx⟩:=Ud (s:=⟨[],[],H,0⟩) (sv:=⟨[],[],Hv⟩) hh hb;obtain⟨_,b0,_⟩:=hh.Tc b _ hb;have yS:live H b:=⟨_,hb,rfl⟩;cases pS with
  |Wf _ _ _ hl _=>rw[k0]at hl;simp at hl
  |all _ xb IB=>
   obtain⟨jv,tyb,i2,i3,i4⟩:=kx xb IB;have i2':Hv.bl[xb]?=some (.cells jv 1 tyb):=i2;have Yx:vo Hv (.sl xb 0 (m.len b 0))=some (jv.take (a::l).length):=by
    show V.rowsOf Hv (.sl xb 0 (m.len b 0))=_;simp only[V.rowsOf,i2'];rw[k0,if_pos (by omega)];simp
   have qS:(jv.take (a::l).length).length=(a::l).length:=by rw[Nb];omega
   have pS:∀r,r<(a::l).length->∃a',(jv.take (a::l).length)[r]?=some [a']/\Ul m Hv (m.ι b (r+1)) c' ((a::l).getD r []) a':=fun r hr=>by
    obtain⟨a',j1,j2⟩:=i4 r hr;exact⟨a',by rw[Cb,if_pos hr];exact j1,j2⟩
   have cag:∀r∈jv.take (a::l).length,r.length=width c:=fun r hr=>by
    obtain⟨i,hi⟩:=je hr;have hil:=Xa hi;rw[qS]at hil;obtain⟨a',j1,_⟩:=pS i hil;rw[hi]at j1;simp at j1;subst j1;rw[mj];rfl
   have dV:z'.length=1:=by rw[hzw,mj];rfl
   have hFy:∀{H0:UH}{sV:V.AH},(∀{b'},live H0 b'->b'≠b/\live H b')->sV.wm=Hv.wm->∀r x,m.ι b (r+1)=some x->K8 m H0 sV x:=fun{H0 sV}Wj Yf r x hx=>⟨⟨b,_,hx⟩,by rw[Yf];exact hh.wm b x hx mF,fun b' s' Zf e'=>(Wj Zf).1 (hh.inj b' b x (Wj Zf).2 yS e' hx)⟩
   have hyi:∀r r' x,m.ι b (r+1)=some x->m.ι b (r'+1)=some x->r=r':=fun r r' x e e'=>by have:=(hh.Pn b b x yS yS e e').2;omega
   have NW:¬(jv.take (a::l).length).length=0:=by rw[qS];simp
   have onN:∀{H0:UH},RH m H0 Hv->(∀{b'},live H0 b'->b'≠b/\live H b')->(x'= .Ya\/x'= .Pd)->(a::l).length * nb<=70368744177664->(a::l).length<9223372036854775808->∃a' Lc,V.append A Hv ts x' (.sl xb 0 (m.len b 0))=some (a',Lc)/\gq m Hv (.all H0.bl.length) (push H0 (.deep c' ([]++a::l))) a' Lc:=fun{H0}D9 Wj eV q1 q2=>by
    have Hs:V.rowsOf Hv x'=some []:=by rcases eV with rfl|rfl<;>rfl
    have hv:=Cp Hv x' _ [] _ Hs Yx (by rw[qS];simpa using q1) (by rw[qS];simpa using q2) cag;rw[if_neg NW]at hv;have hj:=eG (f:=[]) (g:=a::l) (xs:=[]) (ys:=jv.take (a::l).length) (Fx:=fun _=>none) (Fy:=fun r=>m.ι b (r+1)) (ty:=some (e,1)) D9 rfl qS (fun r x hr=>by simp at hr) (hFy Wj rfl) (fun r r' x hr=>by simp at hr) hyi (fun r r' x hr=>by simp at hr) (fun r hr=>(b0 r).2 hr) (fun r hr=>by simp at hr) pS;refine⟨.sl Hv.bl.length 0 ([]++a::l).length,V.push Hv (.cells ([]++jv.take (a::l).length) 1 (some (e,1))),?_,hj⟩;rw[hv];rcases eV with rfl|rfl<;>simp only[Ou,qS,dV,List.nil_append]
   rcases hX with⟨eV,rfl,rfl⟩|⟨b1,rfl,Np,Sc,dag,rfl⟩
   ·have jak:x'= .Ya\/x'= .Pd:=by rcases eV with rfl|rfl<;>cases dP<;>simp
    exact onN (hh.kill b) (fun h=>by rcases qg h with⟨_,h'⟩|h';simp[Xd]at h';exact h') jak (by simpa using h0.1) (by simpa using h0.2)
   ·have SJ:live H b1:=⟨_,Np,rfl⟩;have D9:=(hh.kill b1).kill b;have Wj:∀{b'},live (Sa (Sa H b1 .dead) b .dead) b'->b'≠b/\b'≠b1/\live H b':=fun h=>by
     rcases qg h with⟨_,h'⟩|⟨h1,h'⟩
     ·simp[Xd]at h'
     ·rcases qg h' with⟨_,h'⟩|⟨h2,h'⟩
      ·simp[Xd]at h'
      ·exact⟨h1,h2,h'⟩
    obtain⟨q0,q1,qx⟩:=Ud (s:=⟨[],[],H,0⟩) (sv:=⟨[],[],Hv⟩) hh Np;cases dP with
    |Wf _ _ _ hl ha=>
     have hf:f=[]:=by rw[q0]at hl;exact Ja.1 hl
     subst hf;exact onN D9 (fun h=>⟨(Wj h).1,(Wj h).2.2⟩) ha (by simpa using h0.1) (by simpa using h0.2)
    |all _ x1 Ej=>
     obtain⟨zn,ty1,p2,p3,p4⟩:=qx x1 Ej;have p2':Hv.bl[x1]?=some (.cells zn 1 ty1):=p2;have Hs:V.rowsOf Hv (.sl x1 0 (m.len b1 0))=some (zn.take f.length):=by
      simp only[V.rowsOf,p2'];rw[q0,if_pos (by omega)];simp
     have QI:(zn.take f.length).length=f.length:=by rw[Nb];omega
     have hv:=Cp Hv (.sl x1 0 (m.len b1 0)) _ _ _ Hs Yx (by rw[QI,qS];exact h0.1) (by rw[QI,qS];exact h0.2) cag;rw[if_neg NW]at hv;have BW:=hh.wm b1 x1 Ej dag;have Ed:=D9.other (x:=x1) (fun b' s' Zf e'=>(Wj Zf).2.1 (hh.inj b' b1 x1 (Wj Zf).2.2 SJ e' Ej)) .dead;have dc:∀{b' s':Nat}{x:Nat},m.ι b' (s'+1)=some x->(b'=b\/b'=b1)->(V.Sa Hv x1 .dead).bl[x]?=Hv.bl[x]?:=fun{b' s' x}e hbb=>by
      rw[Ac,if_neg]
      rintro rfl
      rcases hbb with rfl|rfl
      ·exact Sc ((hh.inj b' b1 x1 yS SJ e Ej).symm)
      ·have:=(hh.Pn b' b' x1 SJ SJ e Ej).2;omega
     have hj:=eG (f:=f) (g:=a::l) (xs:=zn.take f.length) (ys:=jv.take (a::l).length) (Fx:=fun r=>m.ι b1 (r+1)) (Fy:=fun r=>m.ι b (r+1)) (ty:=V.Iz (V.wG Hv x1) e 0) Ed QI qS
      (fun r x _ hx=>⟨⟨b1,_,hx⟩,hh.wm b1 x hx dag,fun b' s' Zf e'=>(Wj Zf).2.1 (hh.inj b' b1 x (Wj Zf).2.2 SJ e' hx)⟩)
      (hFy (fun h=>⟨(Wj h).1,(Wj h).2.2⟩) rfl) (fun r r' x _ _ e e'=>by have:=(hh.Pn b1 b1 x SJ SJ e e').2;omega) hyi (fun r r' x _ e e'=>Sc (hh.inj b1 b x SJ yS e e')) (fun r hr=>(b0 r).2 hr)
      (fun r hr=>by
       obtain⟨a',j1,j2⟩:=p4 r hr;exact⟨a',by rw[Cb,if_pos hr];exact j1,j2.keep (fun _ _ _ h=>h) fun x hx=>dc hx (.inr rfl)⟩)
      (fun r hr=>by
       obtain⟨a',j1,j2⟩:=pS r hr;exact⟨a',j1,j2.keep (fun _ _ _ h=>h) fun x hx=>dc hx (.inl rfl)⟩)
     have rS:(V.Sa Hv x1 .dead).bl.length=Hv.bl.length:=by simp[V.Sa]
     rw[rS]at hj;obtain⟨m',e1,e2,e3,e4⟩:=hj;have g1:Yj m.top m Hv m (V.Sa Hv x1 .dead):=⟨.refl (va _),fun x' Rk wS=>by rw[Ac,if_neg (fun e=>wS b1 0 (by rw[<- e];exact Ej))],fun b' s' x' ud=> .inl ⟨b',s',ud⟩,by simp[V.Sa],rfl⟩;refine⟨_,_,?_,m',e1,e2,e3,g1.trans e4 (va _)⟩;rw[hv];simp only[Ou];rw[if_pos ⟨BW,by simp only[V.Uj,p2'];rw[dV]⟩,QI,qS,dV,qd]
 rename_i hdy;split at h
 ·split at h
  ·exact Fj (.inl rfl) (.inl rfl) h
  ·exact Fj (.inl rfl) (.inr rfl) h
  ·split at h
   ·simp at h
   ·rename_i QJ;exact jP (.inl rfl) h fun s e=>QJ s e
 ·split at h
  ·exact Fj (.inr rfl) (.inl rfl) h
  ·exact Fj (.inr rfl) (.inr rfl) h
  ·split at h
   ·simp at h
   ·rename_i QJ;exact jP (.inr rfl) h fun s e=>QJ s e
 ·simp only[aa]at h;obtain⟨g,hg,h⟩:=h;split at h
  ·exact C6 (.inl rfl) hg h
  ·exact C6 (.inr rfl) hg h
  ·rename_i b r0 n0;split at h
   ·simp at h
   rename_i a g';split at h
   case isFalse=>simp at h
   rename_i hw;simp only[aa]at h;obtain⟨f,hf,h⟩:=h;have hf0:=hf;simp only[rowsOf]at hf;split at hf
   case h_2=>simp at hf
   rename_i c' l hb;split at hf
   case isFalse=>simp at hf
   rename_i hc;subst hc;simp at hf;subst hf;refine fq (r0:=r0+1) (fun e=>by simp at e) hw hf0 hg (fun{m Hv x'}hh hx=> ?_) ⟨_,_,hb,rfl⟩ h;obtain⟨k0,_⟩:=yc (s:=⟨[],[],H,0⟩) (sv:=⟨[],[],Hv⟩) hh hb;cases hx with
   |sl _ _ _ xi Of hle=>exact⟨by rw[Ek];simp;omega,.inl ⟨xi,Of,rfl⟩⟩
   |Vt _ _ _ ha=>exact⟨by rw[Ek];simp,.inr ⟨ha,by rw[Ek];simp⟩⟩
  ·rename_i b n0 _ _;split at h
   case isFalse=>simp at h
   rename_i hw;simp only[aa]at h;obtain⟨f,hf,h⟩:=h;have hf0:=hf;simp only[rowsOf]at hf;split at hf
   case h_2=>simp at hf
   rename_i c' l hb;split at hf
   case isFalse=>simp at hf
   rename_i hc;subst hc;simp at hf;subst hf;refine fq (fun _=>rfl) hw hf0 hg (fun{m Hv x'}hh hx=> ?_) ⟨_,_,hb,rfl⟩ h;obtain⟨k0,_⟩:=yc (s:=⟨[],[],H,0⟩) (sv:=⟨[],[],Hv⟩) hh hb;cases hx with
   |sl _ _ _ xi Of hle=>exact⟨by rw[Ek];simp;omega,.inl ⟨xi,Of,rfl⟩⟩
   |Vt _ _ _ ha=>exact⟨by rw[Ek];simp,.inr ⟨ha,by rw[Ek];simp⟩⟩
  ·rename_i b _ _;split at h
   case isFalse=>simp at h
   rename_i hw;simp only[aa]at h;obtain⟨f,hf,h⟩:=h;have hf0:=hf;simp only[rowsOf]at hf;split at hf
   case h_2=>simp at hf
   rename_i c' l hb;split at hf
   case isFalse=>simp at hf
   rename_i hc;subst hc;simp at hf;subst hf;refine fq (fun _=>rfl) hw hf0 hg (fun{m Hv x'}hh hx=> ?_) ⟨_,_,hb,rfl⟩ h;obtain⟨k0,_⟩:=yc (s:=⟨[],[],H,0⟩) (sv:=⟨[],[],Hv⟩) hh hb;cases hx with
   |all _ xi Of=>exact⟨rfl,.inl ⟨xi,Of,by rw[k0]⟩⟩
   |Wf _ _ _ hl ha=>exact⟨rfl,.inr ⟨ha,Ja.1 (by omega)⟩⟩
  ·simp at h
end
end Go.U
