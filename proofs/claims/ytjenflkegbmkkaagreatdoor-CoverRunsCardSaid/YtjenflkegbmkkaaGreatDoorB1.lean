/- A second evaluator, over rows of Lean values, and that it is right over the first. -/
import Derived.Test.YtjenflkegbmkkaaGreatDoorA1
import Derived.Test.YtjenflkegbmkkaaGreatDoorA4
set_option linter.unusedVariables false
set_option linter.unusedSimpArgs false
set_option linter.unusedSectionVars false
open Bool renaming and_eq_true→Va
open ByteArray renaming empty→Rz
open List renaming replicate→Ca,range→ua,mem_append→Mw,mem_of_getElem?→Nb,all_eq_true→tc,getElem?_map→Tb,getElem?_eq_none→Ab,getElem?_eq_getElem→Ba,getElem?_drop→Ic,getElem?_take→Db,getElem?_append_left→Ka,getElem?_append_right→Na,getElem?_set→Ob,mem_cons→Yb,getElem?_of_mem→me,append_assoc→xd,getD_eq_getElem?_getD→Ia,length_set→qe,getElem?_replicate→ji,length_cons→Jb,length→da,length_replicate→Of,length_map→Qc,length_eq_zero_iff→Ja,length_take→ic,length_append→qd,append_nil→Nn,length_nil→Bb
open Nat renaming le_refl→va,le_trans→Ib,lt_of_lt_of_le→zb,lt_or_ge→Vb,zero_add→Re,le_of_eq→Kh,add_zero→Je
open Option renaming map_eq_some_iff→ia,bind_eq_some_iff→aa,bind_some→ga,map_some→Oc
open Option.some renaming injEq→Dc
namespace Go.U
open Go
inductive CT where
 |bool
 |int (k:IntKind)
 |str
 |slice (c:CT)
 |pair (a b:CT)
 deriving DecidableEq,Inhabited
def Gb:CT->Type
 | .bool=>Bool
 | .int _=>Int
 | .str=>ByteArray
 | .slice c=>List (Gb c)
 | .pair a b=>Gb a×Gb b
def width:CT->Nat
 | .pair a b=>width a+width b
 |_=>1
def XT:(c:CT)->Gb c
 | .bool=>false
 | .int _=>(0:Int)
 | .str=>Rz
 | .slice _=>[]
 | .pair a b=>(XT a,XT b)
inductive KT where
 |int (k:IntKind)
 |str
 deriving DecidableEq,Inhabited
def td:KT->Type
 | .int _=>Int
 | .str=>ByteArray
def nI:(k:KT)->td k->td k->Bool
 | .int _=>fun(a b:Int)=>decide (a=b)
 | .str=>fun(a b:ByteArray)=>a==b
inductive UV where
 |Sb
 |bool (b:Bool)
 |int (k:IntKind) (n:Int)
 |str (s:ByteArray)
 |Oe
 |ptr (b c:Nat)
 |Dm (b r c:Nat)
 |Ed (row:List UV)
 |Xa
 |Ud
 |sl (b r n:Nat)
 |all (b:Nat)
 |xp (b r:Nat)
 |Hp (b r j c:Nat)
 |lit (c:CT) (l:List (Gb c))
 |Jf
 |mp (b:Nat)
 |bf
 |fn (f:FuncId) (fh:List UV)
 |yl (b:Nat)
 |Rg
 |agg (cells:List UV)
 |Sc (vs:List UV)
 deriving Inhabited
inductive UB where
 |dead
 |Ya (row:List UV)
 |cells (c:CT) (l:List (Gb c))
 |deep (c:CT) (l:List (List (Gb c)))
 |Zj (k:KT) (es:List (td k×UV))
 |oh (k:KT) (g:Bool) (c:CT) (l:List (td k×Gb c))
 |loop (id:Nat) (env:List (Nat×UV)) (st:LoopState) (pe:V.Ex)
 |um (q:UV)
 |yp (s:ByteArray)
 deriving Inhabited
structure RFn where
 n:Nat
 ps:List Nat
 assign:Code
 body:Code
class GC where
 rf:Nat->RFn
 bT:TypeId
 uT:TypeId
structure UH where
 bl:List UB
 wm:Nat
inductive US where
 |v (a:UV)
 |loc (i c:Nat)
structure St where
 e:List (Nat×US)
 F:List (List UV)
 H:UH
 base:Nat
def fN{α:Type}(n:Nat)(k:Nat->α):α:=match n with|0=>k 0|m+1=>k (m+1)
def fL{α β:Type}(l:List β)(k:List β->α):α:=match l with|[]=>k []|x::xs=>fL xs fun xs=>k (x::xs)
def fV{α:Type}(v:UV)(k:UV->α):α:=
 match v with
 | .Sb=>k .Sb
 | .bool b=>k (.bool b)
 | .int t n=>k (.int t n)
 | .str s=>k (.str s)
 | .Oe=>k .Oe
 | .ptr b c=>fN b fun b=>fN c fun c=>k (.ptr b c)
 | .Dm b r c=>fN b fun b=>fN c fun c=>k (.Dm b r c)
 | .Ed row=>fL row fun row=>k (.Ed row)
 | .Xa=>k .Xa
 | .Ud=>k .Ud
 | .sl b r n=>fN b fun b=>k (.sl b r n)
 | .all b=>fN b fun b=>k (.all b)
 | .xp b r=>fN b fun b=>k (.xp b r)
 | .Hp b r j c=>fN b fun b=>fN c fun c=>k (.Hp b r j c)
 | .lit c l=>k (.lit c l)
 | .Jf=>k .Jf
 | .mp b=>fN b fun b=>k (.mp b)
 | .bf=>k .bf
 | .fn f cs=>fL cs fun cs=>k (.fn f cs)
 | .yl b=>fN b fun b=>k (.yl b)
 | .Rg=>k .Rg
 | .agg cs=>fL cs fun cs=>k (.agg cs)
 | .Sc vs=>fL vs fun vs=>k (.Sc vs)
def fU{α:Type}(v:US)(k:US->α):α:=
 match v with
 | .v a=>fV a fun a=>k (.v a)
 | .loc i c=>fN i fun i=>fN c fun c=>k (.loc i c)
def fSt{α:Type}(s:St)(k:St->α):α:=
 match s with
 |⟨e,F,⟨bl,wm⟩,base⟩=>fL F fun F=>fL bl fun bl=>fN wm fun wm=>fN base fun base=>(match e with|[]=>k ⟨[],F,⟨bl,wm⟩,base⟩|x::l=>k ⟨x::l,F,⟨bl,wm⟩,base⟩)
theorem xW{α:Type}(n:Nat)(k:Nat->α):fN n k=k n:=by cases n<;>rfl
theorem aF{α β:Type}:∀(l:List β)(k:List β->α),fL l k=k l
 |[],_=>rfl
 |x::xs,k=>by simp only[fL,aF xs]
theorem Cag{α:Type}(v:UV)(k:UV->α):fV v k=k v:=by cases v<;>simp only[fV,xW,aF]
theorem K8{α:Type}(v:US)(k:US->α):fU v k=k v:=by cases v<;>simp only[fU,Cag,xW]
theorem wW{α:Type}(s:St)(k:St->α):fSt s k=k s:=by
 obtain⟨e,F,⟨bl,wm⟩,base⟩:=s;simp only[fSt,xW,aF];cases e<;>rfl
def enc:(c:CT)->Gb c->List UV
 | .bool,b=>[.bool b]
 | .int k,n=>[.int k n]
 | .str,s=>[.str s]
 | .slice c,l=>[.lit c l]
 | .pair a b,(x,y)=>enc a x++enc b y
def dec:(c:CT)->List UV->Option (Gb c×List UV)
 | .bool,.bool b::r=>some (b,r)
 | .int k,.int k' n::r=>if k'=k then some (n,r)else none
 | .str,.str s::r=>some (s,r)
 | .slice c,.lit c' l::r=>if h:c'=c then some (h ▸ l,r)else none
 | .slice _,.Xa::r=>some ([],r)
 | .slice _,.Ud::r=>some ([],r)
 | .pair a b,cs=>(dec a cs).bind fun(x,r)=>(dec b r).bind fun(y,r')=>some ((x,y),r')
 |_,_=>none
def OH(c:CT)(cs:List UV):Option (Gb c):=
 match dec c cs with
 |some (x,[])=>some x
 |_=>none
def P0(c:CT):List (List UV)->Option (List (Gb c))
 |[]=>some []
 |r::rs=>(OH c r).bind fun x=>(P0 c rs).bind fun l=>some (x::l)
def vw(c:CT)(l:List (Gb c)):Nat->List UV:=fun i=>enc c (l.getD i (XT c))
def zN(s:ByteArray):List Int:=s.data.toList.map fun b=>(b.toNat:Int)
def Hah(l:List Int):ByteArray:=⟨(l.map fun n=>UInt8.ofNat n.toNat).toArray⟩
def qk{α:Type}(r n:Nat)(l:List α):List α:=
 match r with
 |0=>l.take n
 |r+1=>(l.drop (r+1)).take n
def Nz{α:Type}(r m:Nat)(g l:List α):List α:=l.take r++(g.take m++l.drop (r+m))
def valOf(g:Bool)(c:CT)(x:Gb c):UV:=
 match g,enc c x with
 |true,cs=> .agg cs
 |false,[v]=>v
 |_,_=> .Sb
def keyOf?(k:KT):UV->Option (td k):=
 match k with
 | .int k=>fun| .int k' n=>if k'=k then some n else none|_=>none
 | .str=>fun| .str s=>some s|_=>none
def vJ{k:KT}{α:Type}(i:td k)(l:List (td k×α)):Bool:=l.any fun p=>nI k i p.1
def Lz{k:KT}{α:Type}(i:td k)(d:α):List (td k×α)->α
 |[]=>d
 |(j,x)::l=>cond (nI k i j) x (Lz i d l)
def VA{k:KT}{α:Type}(i:td k)(x:α):List (td k×α)->List (td k×α)
 |[]=>[(i,x)]
 |(j,y)::l=>cond (nI k i j) ((i,x)::l) ((j,y)::VA i x l)
def MD{k:KT}{α:Type}(i:td k):List (td k×α)->List (td k×α)
 |[]=>[]
 |(j,y)::l=>cond (nI k i j) l ((j,y)::MD i l)
def kU(r k:Nat):Nat:=match r with|0=>k|_=>r+k
def closed:Nat->UV->Bool
 |0,_=>false
 |_+1,.ptr .. |_+1,.Dm .. |_+1,.sl .. |_+1,.all _|_+1,.xp .. |_+1,.Hp .. |_+1,.mp _|_+1,.yl _|_+1,.Sb|_+1,.agg _|_+1,.Sc _=>false
 |d+1,.fn _ cs=>cs.all (closed d)
 |_+1,_=>true
def Rb:Nat->UV->Bool
 |0,_=>false
 |d+1,.agg cs=>cs.all (Rb d)
 |d+1,.Sc cs=>cs.all (Rb d)
 |_+1,x=>closed 8 x
def get:List (Nat×US)->Nat->US
 |[],_=> .v .Sb
 |(j,x)::e,i=>if i=j then x else get e i
def UV.cells?:UV->Option (List UV)
 | .agg cs=>some cs
 | .Sb| .Sc _=>none
 |x=>some [x]
def nj:Value->Option UV
 | .bool b=>some (.bool b)
 | .int k n=>some (.int k n)
 | .string s=>some (.str s)
 | .pointer none=>some .Oe
 | .slice none 0 0=>some .Xa
 | .map none=>some .Jf
 | .nilFunc=>some .bf
 | .nilIface=>some .Rg
 |_=>none
def Rc:List Value->Option (List UV)
 |[]=>some []
 |v::vs=>(nj v).bind fun x=>(Rc vs).bind fun xs=>some (x::xs)
def ask{X:Type}(b:Bool)(x:Option X):Option X:=cond b x none
section
variable (A:V.yh)(Pa:Nat->Option (List UV))
def zero(t:TypeId):Option (List UV):=
 match(A.P.info? t).map (·.zero)with
 |some (some v)=>Rc v.cells.toList
 |_=>none
def zeroV(t:TypeId):Option UV:=
 match(A.P.info? t).map (·.zero)with
 |some (some (Value.agg cs))=>(Rc cs.toList).map UV.agg
 |some (some v)=>nj v
 |_=>none
def operand(e:List (Nat×US)):Operand->Option US
 | .tmp t=>some (get e t)
 | .const v=>(nj v).map .v
 | .global g=>(Pa g).map fun row=> .v (.Ed row)
 | .func f=>some (.v (.fn f []))
def val(e:List (Nat×US))(x:Operand):Option UV:=
 match operand Pa e x with
 |some (.v .Sb)=>none
 |some (.v a)=>some a
 |_=>none
def ah(e:List (Nat×US)):List Operand->Option (List UV)
 |[]=>some []
 |x::xs=>(val Pa e x).bind fun a=>(ah e xs).bind fun l=>some (a::l)
def Bf(row:List UV)(c:Nat)(new:List UV):Option (List UV):=
 if c+new.length<=row.length then some (row.take c++(new++row.drop (c+new.length)))else none
def part(t:TypeId)(row:List UV)(c:Nat):Option UV:=
 (V.isAgg A t).bind fun
  |true=>(V.size A t).bind fun n=>if c+n<=row.length then some (.agg ((row.drop c).take n))else none
  |false=>row[c]?
def Ra(H:UH)(b:Nat)(x:UB):UH:={ H with bl:=H.bl.set b x }
def push(H:UH)(x:UB):UH:={ H with bl:=H.bl++[x] }
def load(s:St)(t:TypeId):US->Option UV
 | .loc i c=>s.F[i]?.bind fun row=>part A t row c
 | .v (.ptr b c)=>match s.H.bl[b]? with|some (.Ya row)=>part A t row c|_=>none
 | .v (.Dm b r c)=>match s.H.bl[b]? with|some (.cells ct l)=>part A t (vw ct l r) c|some (.deep _ _)=>part A t [.xp b r] c|_=>none
 | .v (.Hp b r j c)=>match s.H.bl[b]? with|some (.deep ct l)=>part A t (vw ct (l.getD r []) j) c|_=>none
 | .v (.Ed row)=>part A t row 0
 |_=>none
def store(s:St)(t:TypeId)(p:US)(x:UV):Option St:=
 x.cells?.bind fun cs=>(V.size A t).bind fun n=>
  if cs.length=n then
   match p with
   | .loc i c=>s.F[i]?.bind fun row=>(Bf row c cs).bind fun Lb=>fL Lb fun Lb=>some { s with F:=s.F.set i Lb }
   | .v (.ptr b c)=>
    match s.H.bl[b]? with
    |some (.Ya row)=>if s.H.wm<=b then(Bf row c cs).bind fun Lb=>fL Lb fun Lb=>some { s with H:=Ra s.H b (.Ya Lb) }else none
    |_=>none
   | .v (.Dm b r c)=>
    match s.H.bl[b]? with
    |some (.cells ct l)=>if s.H.wm<=b then(Bf (vw ct l r) c cs).bind fun Lb=>(OH ct Lb).bind fun x=>some { s with H:=Ra s.H b (.cells ct (l.set r x)) }else none
    |_=>none
   | .v (.Hp b r j c)=>
    match s.H.bl[b]? with
    |some (.deep ct l)=>if s.H.wm<=b then(Bf (vw ct (l.getD r []) j) c cs).bind fun Lb=>(OH ct Lb).bind fun x=>some { s with H:=Ra s.H b (.deep ct (l.set r ((l.getD r []).set j x))) }else none
    |_=>none
   |_=>none
  else none
def Ng(n:Nat):US->Option US
 | .loc i c=>some (.loc i (c+n))
 | .v (.ptr b c)=>some (.v (.ptr b (c+n)))
 | .v (.Dm b r c)=>some (.v (.Dm b r (c+n)))
 | .v (.Hp b r j c)=>some (.v (.Hp b r j (c+n)))
 | .v (.Ed row)=>some (.v (.Ed (row.drop n)))
 |_=>none
variable {X:Type}
def cases(i:Int)(K:Nat->Option X):Nat->Nat->Option X
 |0,_=>none
 |m+1,j=>cond (decide (i=(j:Int))) (K j) (cases i K m (j+1))
def indexAddr(H:UH)(t:TypeId)(x:US)(i:Int)(K:US->Option X):Option X:=
 match A.P.underlying t with
 |some (.array n e)=>(V.size A e).bind fun sz=>cases i (fun j=>(Ng (j * sz) x).bind K) n 0
 |some (.slice e)=>
  match x with
  | .v (.sl b r n)=>
   match H.bl[b]? with
   |some (.cells c _)=>if V.size A e=some (width c)then ask (V.ja i n) (K (.v (.Dm b (kU r i.toNat) 0)))else none
   |some (.deep _ _)=>if V.size A e=some 1 then ask (V.ja i n) (K (.v (.Dm b (kU r i.toNat) 0)))else none
   |_=>none
  | .v (.all b)=>
   match H.bl[b]? with
   |some (.cells c l)=>if V.size A e=some (width c)then ask (V.ja i l.length) (K (.v (.Dm b i.toNat 0)))else none
   |some (.deep _ l)=>if V.size A e=some 1 then ask (V.ja i l.length) (K (.v (.Dm b i.toNat 0)))else none
   |_=>none
  | .v (.xp b r)=>
   match H.bl[b]? with
   |some (.deep c l)=>if V.size A e=some (width c)then ask (V.ja i (l.getD r []).length) (K (.v (.Hp b r i.toNat 0)))else none
   |_=>none
  | .v (.lit c l)=>if V.size A e=some (width c)then ask (V.ja i l.length) (K (.v (.Ed (vw c l i.toNat))))else none
  |_=>none
 |_=>none
def index(t:TypeId)(x:UV)(i:Int)(K:UV->Option X):Option X:=
 match A.P.underlying t,x with
 |some (.array n e),.agg cs=>(V.size A e).bind fun sz=>cases i (fun j=>(part A e cs (j * sz)).bind K) n 0
 |some .string,.str s=>ask (V.ja i s.size) (K (.int .u8 (s[i.toNat]!.toNat:Int)))
 |_,_=>none
def jg(place:Nat->Option (Nat×Nat))(row:List UV):List (Nat×UV)->Option (List UV)
 |[]=>some row
 |(i,x)::rest=>
  (place i).bind fun(off,n)=>x.cells?.bind fun cs=>
   if cs.length=n then(Bf row off cs).bind fun Lb=>jg place Lb rest else none
def parts(e:List (Nat×US)):List (Nat×Operand)->Option (List (Nat×UV))
 |[]=>some []
 |(i,x)::xs=>(val Pa e x).bind fun a=>(parts e xs).bind fun l=>some ((i,a)::l)
def build(t:TypeId)(ps:List (Nat×UV)):Option UV:=
 (zero A t).bind fun z=>
  match A.P.underlying t with
  |some (.struct fs)=>if fs.toList.all fun f=>(V.size A f.type).isSome then(jg (fun i=>fs[i]?.bind fun f=>(V.size A f.type).map fun n=>(f.offset,n)) z ps).map .agg else none
  |some (.array _ e)=>(V.size A e).bind fun n=>(jg (fun i=>some (i * n,n)) z ps).map .agg
  |_=>none
def Q0:Nat->TypeId->Option CT
  |0,_=>none
  |d+1,t=>
   match A.P.underlying t with
   |some .bool=>some .bool
   |some (.int k)=>some (.int k)
   |some .string=>some .str
   |some (.slice e)=>(Q0 d e).map .slice
   |some (.struct fs)=>tC (fs.toList.map fun f=>Q0 d f.type)
   |some (.array n e)=>tC (Ca n (Q0 d e))
   |_=>none
 where
  tC:List (Option CT)->Option CT
   |[]=>none
   |[c]=>c
   |c::cs=>c.bind fun c=>(tC cs).map fun c'=> .pair c c'
def elemOf(t:TypeId):Option ((c:CT)×Gb c):=
 (V.elem? A t).bind fun e=>(zero A e).bind fun z=>(Q0 A 16 e).bind fun c=>(OH c z).bind fun x=>
  if 0<z.length/\V.size A e=some z.length/\width c=z.length then some ⟨c,x⟩else none
def Te(rows:List (List UV)):List (Nat×UV)->Option (List (List UV))
 |[]=>some rows
 |(i,x)::rest=>x.cells?.bind fun cs=>rows[i]?.bind fun row=>if cs.length=row.length then Te (rows.set i cs) rest else none
def wh(c:CT):Nat->List (Nat×UV)->UH->Option (List (List (Gb c))×UH)
 |_,[],H=>some ([],H)
 |i,(j,x)::ps,H=>if j=i then
  match x with
  | .Xa| .Ud=>(wh c (i+1) ps H).bind fun(l,H)=>some ([]::l,H)
  | .all b=>
   match H.bl[b]? with
   |some (.cells c' l)=>if h:c'=c/\H.wm<=b then(wh c (i+1) ps (Ra H b .dead)).bind fun(l',H)=>some ((h.1 ▸ l)::l',H)else none
   |_=>none
  |_=>none
  else none
def isAll:UV->Bool
 | .all _=>true
 |_=>false
def tN(H:UH)(t:TypeId)(len:Nat)(ps:List (Nat×UV)):Option (UV×UH):=
 match elemOf A t with
 |some ⟨.slice c,_⟩=>if ps.length=len/\ps.any (fun p=>isAll p.2)=true then(wh c 0 ps H).bind fun(l,H)=>some (.all H.bl.length,push H (.deep c l))else none
 |_=>none
def buildSlice(H:UH)(t:TypeId)(len:Nat)(ps:List (Nat×UV)):Option (UV×UH):=
 (V.elem? A t).bind fun e=>(zero A e).bind fun z=>(elemOf A t).bind fun⟨c,_⟩=>
  if len * z.length<=16777216 then
   if len=0/\ps.length=0 then some (.Ud,H)else
    match tN A H t len ps with
    |some r=>some r
    |none=>(Te (Ca len z) ps).bind fun rows=>(P0 c rows).bind fun l=>some (.all H.bl.length,push H (.cells c l))
  else none
def makeSlice(H:UH)(t:TypeId)(len cap:UV)(K:UV->UH->Option X):Option X:=
 match len,cap with
 | .int _ l,.int _ c=>
  (V.elem? A t).bind fun e=>(elemOf A t).bind fun⟨ct,x⟩=>(V.bytes A e).bind fun n=>
   ask (decide (0<=l)&&decide (l<=c)&&decide (n * c<=70368744177664)&&decide (c<9223372036854775808))
    (K (.all H.bl.length) (push H (.cells ct (Ca l.toNat x))))
 |_,_=>none
def rowsOf(H:UH)(c:CT):UV->Option (List (Gb c))
 | .lit c' l=>if h:c'=c then some (h ▸ l)else none
 | .all b=>match H.bl[b]? with|some (.cells c' l)=>if h:c'=c then some (h ▸ l)else none|_=>none
 | .sl b r n=>match H.bl[b]? with|some (.cells c' l)=>if h:c'=c then some (qk r n (h ▸ l))else none|_=>none
 | .xp b r=>match H.bl[b]? with|some (.deep c' l)=>if h:c'=c then some (h ▸ l.getD r [])else none|_=>none
 | .str s=>if h:CT.int .u8=c then some (h ▸ (zN s:List (Gb (.int .u8))))else none
 |_=>none
def M0(H:UH):UV->Option (Nat×(c:CT)×List (Gb c)×List (List (Gb c)))
 | .all b=>match H.bl[b]? with|some (.deep c (a::l))=>if H.wm<=b then some (b,⟨c,a,l⟩)else none|_=>none
 |_=>none
def N0(H:UH)(c:CT)(b:Nat):UV->Option (List (List (Gb c))×UH)
 | .Xa| .Ud=>some ([],Ra H b .dead)
 | .all b1=>match H.bl[b1]? with|some (.deep c' l)=>if h:c'=c/\b1≠b/\H.wm<=b1 then some (h.1 ▸ l,Ra (Ra H b1 .dead) b .dead)else none|_=>none
 |_=>none
def append(H:UH)(argTypes:Array TypeId)(x y:UV)(K:UV->UH->Option X):Option X:=
 argTypes[0]?.bind fun t=>(V.elem? A t).bind fun e=>(elemOf A t).bind fun⟨c,_⟩=>(V.bytes A e).bind fun n=>
  (match argTypes[1]? with
   |some u=>(match A.P.underlying u with|some (.int _)=>none|some _=>some ()|none=>none)
   |none=>some ()).bind fun _=>
   match M0 H y with
   |some (b,⟨c',a,l⟩)=>if c=CT.slice c' then(N0 H c' b x).bind fun(f,H0)=>ask (decide ((f.length+(a::l).length) * n<=70368744177664)&&decide (f.length+(a::l).length<9223372036854775808)) (K (.all H0.bl.length) (push H0 (.deep c' (f++a::l))))else none
   |none=>
   match y with
   | .Xa| .Ud=>match x with| .Xa| .Ud=>K x H|x=>match x with| .str _=>none|x=>(rowsOf H c x).bind fun f=>ask (decide (f.length * n<=70368744177664)&&decide (f.length<9223372036854775808)) (K x H)
   |y=>
    (rowsOf H c y).bind fun g=>
     match x with
     | .Xa| .Ud=>ask (decide (g.length * n<=70368744177664)&&decide (g.length<9223372036854775808)) (K (.all H.bl.length) (push H (.cells c g)))
     | .sl b (r+1) m=>
      match g with
      |[]=>none
      |a::g'=>
      if H.wm<=b then
       (rowsOf H c (.sl b (r+1) m)).bind fun f=>
        ask (decide ((m+(a::g').length) * n<=70368744177664)&&decide (m+(a::g').length<9223372036854775808)) (K (.all H.bl.length) (push (Ra H b .dead) (.cells c (f++(a::g')))))
      else none
     | .sl b 0 m=>
      if H.wm<=b then
       (rowsOf H c (.sl b 0 m)).bind fun f=>
        ask (decide ((m+g.length) * n<=70368744177664)&&decide (m+g.length<9223372036854775808)) (K (.all H.bl.length) (push (Ra H b .dead) (.cells c (f++g))))
      else none
     | .all b=>
      if H.wm<=b then
       (rowsOf H c (.all b)).bind fun f=>
        ask (decide ((f.length+g.length) * n<=70368744177664)&&decide (f.length+g.length<9223372036854775808)) (K (.all H.bl.length) (push (Ra H b .dead) (.cells c (f++g))))
      else none
     |_=>none
def slice(H:UH)(t:TypeId)(x:UV)(lo hi:Option Int)(K:UV->Option X):Option X:=
 match A.P.underlying t,x with
 |some .string,.str s=>ask (decide (0<=lo.getD 0)&&decide (lo.getD 0<=hi.getD s.size)&&decide (hi.getD s.size<=s.size)) (K (.str (s.extract (lo.getD 0).toNat (hi.getD s.size).toNat)))
 |some (.slice e),.lit c l=>
  if V.size A e=some (width c)then
   match hi with
   |none=>ask (decide (0<=lo.getD 0)&&decide (lo.getD 0<=l.length)) (K (.lit c (l.drop (lo.getD 0).toNat)))
   |some h=>ask (decide (0<=lo.getD 0)&&decide (lo.getD 0<=h)&&decide (h<=l.length)) (K (.lit c ((l.take h.toNat).drop (lo.getD 0).toNat)))
  else none
 |some (.slice e),.sl b r n=>
  match H.bl[b]? with
  |some (.cells c _)=>if V.size A e=some (width c)then ask (decide (0<=lo.getD 0)&&decide (lo.getD 0<=hi.getD n)&&decide (hi.getD n<=n)) (K (.sl b (kU r (lo.getD 0).toNat) ((hi.getD n).toNat-(lo.getD 0).toNat)))else none
  |some (.deep _ _)=>if V.size A e=some 1 then ask (decide (0<=lo.getD 0)&&decide (lo.getD 0<=hi.getD n)&&decide (hi.getD n<=n)) (K (.sl b (kU r (lo.getD 0).toNat) ((hi.getD n).toNat-(lo.getD 0).toNat)))else none
  |_=>none
 |some (.slice e),.all b=>
  match H.bl[b]? with
  |some (.cells c l)=>if V.size A e=some (width c)then ask (decide (0<=lo.getD 0)&&decide (lo.getD 0<=hi.getD l.length)&&decide (hi.getD l.length<=l.length)) (K (.sl b (lo.getD 0).toNat ((hi.getD l.length).toNat-(lo.getD 0).toNat)))else none
  |some (.deep _ l)=>if V.size A e=some 1 then ask (decide (0<=lo.getD 0)&&decide (lo.getD 0<=hi.getD l.length)&&decide (hi.getD l.length<=l.length)) (K (.sl b (lo.getD 0).toNat ((hi.getD l.length).toNat-(lo.getD 0).toNat)))else none
  |_=>none
 |_,_=>none
def ri(H:UH)(t:TypeId)(x:UV):Option (UV×UH):=
 match A.P.underlying t with
 |some (.slice e)=>if(V.size A e).isSome then
   match x with
   | .Xa=>some (.Xa,H)
   | .Ud=>some (.Ud,H)
   | .lit c _=>some (.all H.bl.length,push H (.cells c []))
   | .sl b _ _=>match H.bl[b]? with|some (.cells c _)=>some (.all H.bl.length,push H (.cells c []))|_=>none
   | .all b=>match H.bl[b]? with|some (.cells c _)=>some (.all H.bl.length,push H (.cells c []))|_=>none
   |_=>none
  else none
 |_=>none
def CV(x:UV):Bool:=match x with| .int _ n=>decide (n=0)|_=>false
def nq(op:BinOp)(k:IntKind)(x y:Int)(K:UV->Option X):Option X:=
 match op with
 | .add=>K (.int k (k.wrap (x+y)))
 | .sub=>K (.int k (k.wrap (x-y)))
 | .mul=>K (.int k (k.wrap (x * y)))
 | .quo=>cond (decide (y=0)) none (K (.int k (k.wrap (x.tdiv y))))
 | .rem=>cond (decide (y=0)) none (K (.int k (x.tmod y)))
 | .and| .or| .xor| .andNot=>(V.bits op k x y).bind fun n=>K (.int k n)
 | .eql=>K (.bool (decide (x=y)))
 | .neq=>K (.bool (!decide (x=y)))
 | .lss=>K (.bool (decide (x<y)))
 | .leq=>K (.bool (decide (x<=y)))
 | .gtr=>K (.bool (decide (y<x)))
 | .geq=>K (.bool (decide (y<=x)))
 |_=>none
def eqFields(eq:TypeId->UV->UV->Option Bool)(xs ys:List UV):List Field->Option Bool
 |[]=>some true
 |fd::fs=>
  if fd.name= "_" then eqFields eq xs ys fs
  else(part A fd.type xs fd.offset).bind fun x=>(part A fd.type ys fd.offset).bind fun y=>(eq fd.type x y).bind fun b=>(eqFields eq xs ys fs).map fun c=>b&&c
def Lg(eq:UV->UV->Option Bool)(e:TypeId)(sz:Nat)(xs ys:List UV):Nat->Nat->Option Bool
 |0,_=>some true
 |n+1,i=>(part A e xs (i * sz)).bind fun x=>(part A e ys (i * sz)).bind fun y=>(eq x y).bind fun b=>(Lg eq e sz xs ys n (i+1)).map fun c=>b&&c
def zw:Nat->TypeId->UV->UV->Option Bool
 |0,_,_,_=>none
 |d+1,t,x,y=>
  match A.P.underlying t,x,y with
  |some .bool,.bool a,.bool b=>some (a==b)
  |some (.int _),.int k a,.int k' b=>if k=k' then some (decide (a=b))else none
  |some .string,.str a,.str b=>some (a.toList==b.toList)
  |some (.struct fs),.agg xs,.agg ys=>if A.P.stoodInHeld t then none else eqFields A (zw d) xs ys fs.toList
  |some (.array n e),.agg xs,.agg ys=>(V.size A e).bind fun sz=>Lg A (zw d e) e sz xs ys n 0
  |_,_,_=>none
def Ig(t:TypeId)(x y:UV):Option Bool:=
 match A.P.underlying t,x,y with
 |some .bool,.bool a,.bool b=>some (a==b)
 |some (.struct _),.agg xs,.agg ys=>if A.P.eqGuardType A.P.depth t then none else zw A 1000 t (.agg xs) (.agg ys)
 |some (.array _ _),.agg xs,.agg ys=>if A.P.eqGuardType A.P.depth t then none else zw A 1000 t (.agg xs) (.agg ys)
 |some (.slice _),.Xa,.Xa=>some true
 |some (.slice _),.Xa,.Ud|some (.slice _),.Ud,.Xa=>some false
 |some (.pointer _),.Oe,.Oe=>some true
 |some (.pointer _),.Oe,.ptr .. |some (.pointer _),.ptr ..,.Oe|some (.pointer _),.Oe,.Dm .. |some (.pointer _),.Dm ..,.Oe|some (.pointer _),.Oe,.Ed _|some (.pointer _),.Ed _,.Oe=>some false
 |some (.map _ _),.Jf,.Jf=>some true
 |some (.map _ _),.Jf,.mp _|some (.map _ _),.mp _,.Jf=>some false
 |some (.func _ _ _),.bf,.bf=>some true
 |some (.func _ _ _),.bf,.fn .. |some (.func _ _ _),.fn ..,.bf=>some false
 |_,_,_=>none
def vt(op:BinOp)(x y:ByteArray)(K:UV->Option X):Option X:=
 match op with
 | .add=>ask (decide (x.size+y.size<=9223372036854775807)) (K (.str (x++y)))
 | .eql=>K (.bool (x.toList==y.toList))
 | .neq=>K (.bool (!(x.toList==y.toList)))
 | .lss=>K (.bool (Op.bytesLess x.toList y.toList))
 | .leq=>K (.bool (Op.bytesLess x.toList y.toList||x.toList==y.toList))
 | .gtr=>K (.bool !(Op.bytesLess x.toList y.toList||x.toList==y.toList))
 | .geq=>K (.bool !(Op.bytesLess x.toList y.toList))
 |_=>none
def binop(op:BinOp)(t:TypeId)(x y:UV)(K:UV->Option X):Option X:=
 match op,x,y with
 | .shl,.int k a,.int _ b=>ask (decide (0<=b)) (K (.int k (k.wrap (a * 2^min b.toNat k.bits))))
 | .shr,.int k a,.int _ b=>ask (decide (0<=b)) (K (.int k (a.fdiv (2^min b.toNat k.bits))))
 |op,.int k a,.int k' b=>if k=k' then nq op k a b K else none
 |op,.str a,.str b=>vt op a b K
 | .eql,x,y=>(Ig A t x y).bind fun b=>K (.bool b)
 | .neq,x,y=>(Ig A t x y).bind fun b=>K (.bool !b)
 |_,_,_=>none
def unop(op:UnOp)(x:UV):Option UV:=
 match op,x with
 | .neg,.int k n=>some (.int k (k.wrap (0-n)))
 | .xor,.int k n=>(V.bits .xor k (if k.signed then -1 else k.max) n).map (.int k)
 | .not,.bool b=>some (.bool !b)
 |_,_=>none
def convert(H:UH)(src dst:TypeId)(x:UV)(K:UV->UH->Option X):Option X:=
 match A.P.underlying src,A.P.underlying dst,x with
 |some _,some (.int k),.int _ n=>K (.int k (k.wrap n)) H
 |some _,some .string,.str s=>K (.str s) H
 |some .string,some (.slice e),.str s=>
  match A.P.underlying e with
  |some (.int .u8)=>ask (decide (s.size<=70368744177664)) (K (.all H.bl.length) (push H (.cells (.int .u8) (zN s))))
  |_=>none
 |some (.slice e),some .string,x=>
  match A.P.underlying e with
  |some (.int .u8)=>(rowsOf H (.int .u8) x).bind fun l=>K (.str (Hah l)) H
  |_=>none
 |_,_,_=>none
variable {k:KT}
def JB(i:td k)(z:UV)(K:UV->Bool->Option X):List (td k×UV)->Option X
 |[]=>K z false
 |(j,v)::es=>cond (nI k i j) (K v true) (JB i z K es)
def vL(i:td k)(v:UV)(K:List (td k×UV)->Option X):List (td k×UV)->Option X
 |[]=>K [(i,v)]
 |(j,w)::es=>cond (nI k i j) (K ((i,v)::es)) (vL i v (fun ud=>K ((j,w)::ud)) es)
def No(i:td k)(K:List (td k×UV)->Option X):List (td k×UV)->Option X
 |[]=>K []
 |(j,w)::es=>cond (nI k i j) (K es) (No i (fun ud=>K ((j,w)::ud)) es)
def Cz(t:TypeId):Option KT:=
 match A.P.underlying t with
 |some (.int k)=>some (.int k)
 |some .string=>some .str
 |_=>none
def lookup(H:UH)(t:TypeId)(m i:UV)(ok:Bool)(K:UV->Option X):Option X:=
 match A.P.underlying t with
 |some (.map kt et)=>
  match m with
  | .mp b=>
   match H.bl[b]? with
   |some (.Zj k es)=>if Cz A kt=some k then(keyOf? k i).bind fun i=>(zeroV A et).bind fun z=>JB i z (fun v b=>K (if ok then .Sc [v,.bool b]else v)) es else none
   |some (.oh k g c l)=>if Cz A kt=some k then(keyOf? k i).bind fun i=>(zeroV A et).bind fun z=>cond (vJ i l) (K (if ok then .Sc [valOf g c (Lz i (XT c) l),.bool true]else valOf g c (Lz i (XT c) l))) (K (if ok then .Sc [z,.bool false]else z))else none
   |_=>none
  |_=>none
 |_=>none
def V6(g:Bool)(c:CT)(x:UV):Option (Gb c):=
 match g,x with
 |true,.agg cs=>OH c cs
 |false,x=>if width c=1 then OH c [x]else none
 |_,_=>none
def mapUpdate(H:UH)(t:TypeId)(m i x:UV)(K:UH->Option X):Option X:=
 match A.P.underlying t,m with
 |some (.map kt _),.mp b=>
  if H.wm<=b then
   match H.bl[b]? with
   |some (.Zj k es)=>if Cz A kt=some k/\Rb 8 x then(keyOf? k i).bind fun i=>vL i x (fun ud=>K (Ra H b (.Zj k ud))) es else none
   |some (.oh k g c l)=>if Cz A kt=some k then(keyOf? k i).bind fun i=>(V6 g c x).bind fun x=>K (Ra H b (.oh k g c (VA i x l)))else none
   |_=>none
  else none
 |_,_=>none
def Ff(H:UH)(t:TypeId)(m i:UV)(K:UH->Option X):Option X:=
 match A.P.underlying t,m with
 |some (.map kt _),.mp b=>
  if H.wm<=b then
   match H.bl[b]? with
   |some (.Zj k es)=>if Cz A kt=some k then(keyOf? k i).bind fun i=>No i (fun ud=>K (Ra H b (.Zj k ud))) es else none
   |some (.oh k g c l)=>if Cz A kt=some k then(keyOf? k i).bind fun i=>K (Ra H b (.oh k g c (MD i l)))else none
   |_=>none
  else none
 |_,_=>none
def nG(k:KT)(et:TypeId):UB:=
 match V.isAgg A et,Q0 A 16 et with
 |some g,some c=>if g||decide (width c=1)then .oh k g c []else .Zj k []
 |_,_=> .Zj k []
def toInt:UV->Option Int
 | .int _ n=>some n
 |_=>none
def Qg(e:List (Nat×US)):Option Operand->Option (Option Int)
 |none=>some none
 |some x=>(val Pa e x).bind fun a=>(toInt a).map some
def vV:UV->UV->Option UV
 | .int k x,.int _ y=>some (.int k (if y>x then y else x))
 |_,_=>none
def sV:UV->UV->Option UV
 | .int k x,.int _ y=>some (.int k (if y<x then y else x))
 |_,_=>none
def Vk(f:UV->UV->Option UV)(x:UV):List UV->Option UV
 |[]=>some x
 |y::ys=>(f x y).bind fun z=>Vk f z ys
def qV:UV->Bool
 | .str _=>false
 |_=>true
def builtin(H:UH)(b:Builtin)(argTypes:Array TypeId)(args:List UV)(K:UV->UH->Option X):Option X:=
 match b,args with
 | .append,[x,y]=>append A H argTypes x y K
 | .len,[x]=>
  argTypes[0]?.bind fun t=>
   match A.P.underlying t,x with
   |some .string,.str s=>K (.int .i64 s.size) H
   |some (.slice _),.Xa|some (.slice _),.Ud=>K (.int .i64 0) H
   |some (.slice _),.lit _ l=>K (.int .i64 l.length) H
   |some (.slice _),.all b=>match H.bl[b]? with|some (.cells _ l)=>K (.int .i64 l.length) H|some (.deep _ l)=>K (.int .i64 l.length) H|_=>none
   |some (.slice _),.xp b r=>match H.bl[b]? with|some (.deep _ l)=>K (.int .i64 (l.getD r []).length) H|_=>none
   |some (.slice _),.sl _ _ n=>K (.int .i64 n) H
   |some (.map _ _),.mp b=>match H.bl[b]? with|some (.Zj _ es)=>K (.int .i64 es.length) H|some (.oh _ _ _ l)=>K (.int .i64 l.length) H|_=>none
   |some (.array n _),_=>K (.int .i64 n) H
   |_,_=>none
 | .max,x::xs=>(Vk vV x xs).bind fun v=>K v H
 | .min,x::xs=>(Vk sV x xs).bind fun v=>K v H
 | .delete,[m,k]=>argTypes[0]?.bind fun t=>Ff A H t m k fun H'=>K (.Sc []) H'
 | .copy,[x,y]=>
  argTypes[0]?.bind fun t=>(V.elem? A t).bind fun e=>(V.size A e).bind fun z=>
   if qV y then
    match x with
    | .sl b r n=>
     match H.bl[b]? with
     |some (.cells c l)=>if H.wm<=b/\width c=z then(rowsOf H c y).bind fun g=>K (.int .i64 (min g.length n:Nat)) (Ra H b (.cells c (Nz r (min g.length n) g l)))else none
     |_=>none
    | .all b=>
     match H.bl[b]? with
     |some (.cells c l)=>if H.wm<=b/\width c=z then(rowsOf H c y).bind fun g=>K (.int .i64 (min g.length l.length:Nat)) (Ra H b (.cells c (Nz 0 (min g.length l.length) g l)))else none
     |_=>none
    |_=>none
   else none
 |_,_=>none
def BV(cs:List UV):Bool:=match cs with|[.Oe,.Xa]=>true|_=>false
variable [TB:GC]
def box(s:St)(t:TypeId)(Vg:Bool)(cs:List UV):US×St:=
 if Vg then(.loc s.F.length 0,{ s with F:=s.F++[cs] })
 else if t=TB.bT/\BV cs=true then(.v (.ptr (s.H.bl.length+1) 0),{ s with H:=push (push s.H (.yp .empty)) (.um (.all s.H.bl.length)) })
 else(.v (.ptr s.H.bl.length 0),{ s with H:=push s.H (.Ya cs) })
def boxed(s:St)(t:TypeId)(Vg:Bool)(cs:List UV)(K:US->St->Option X):Option X:=if Vg||decide (0<cs.length)then K (box s t Vg cs).1 (box s t Vg cs).2 else none
def jM(v:UV)(H:UH):Option (UV×UH):=
 match v with
 | .all b=>if H.wm<=b then(match H.bl[b]? with|some (.cells c l)=>some (.lit c l,Ra H b .dead)|some (.deep c l)=>some (.lit (.slice c) l,Ra H b .dead)|_=>none)else none
 |_=>none
structure Env where
 join:Nat->Bool
 call:(X:Type)->UV->List UV->UH->(UV->UH->Option X)->Option X
 loop:(X:Type)->Nat->St->(V.Ex->St->Option X)->Option X
def op(env:Env)(Fa:List Nat)(s:St)(o:Oper)(K:US->St->Option X):Option X:=
 match o.op with
 | .move x| .assign x=>(operand Pa s.e x).bind fun v=>K v s
 | .pick c a b=>(val Pa s.e c).bind fun
  | .bool p=>cond p ((operand Pa s.e a).bind fun v=>K v s) ((operand Pa s.e b).bind fun v=>K v s)
  |_=>none
 | .alloc t=>(zero A t).bind fun z=>boxed s t ((o.dst.map (Fa.contains ·)).getD false) z K
 | .box t x=>(val Pa s.e x).bind fun a=>a.cells?.bind fun cs=>boxed s t ((o.dst.map (Fa.contains ·)).getD false) cs K
 | .build t ps=>(parts Pa s.e ps.toList).bind fun l=>(build A t l).bind fun v=>K (.v v) s
 | .buildSlice t n ps=>(parts Pa s.e ps.toList).bind fun l=>(buildSlice A s.H t n l).bind fun(v,H)=>(cond (V.jn Fa o) (jM v H) (some (v,H))).bind fun(v,H)=>K (.v v) { s with H:=H }
 | .load t x=>(operand Pa s.e x).bind fun p=>(load A s t p).bind fun v=>K (.v v) s
 | .store t x y=>(operand Pa s.e x).bind fun p=>(val Pa s.e y).bind fun a=>(store A s t p a).bind fun s'=>K (.v .Sb) s'
 | .nilCheck x=>(operand Pa s.e x).bind fun
  | .loc i c=>K (.loc i c) s
  | .v (.ptr b c)=>K (.v (.ptr b c)) s
  | .v (.Dm b r c)=>K (.v (.Dm b r c)) s
  | .v (.Hp b r j c)=>K (.v (.Hp b r j c)) s
  | .v (.Ed row)=>K (.v (.Ed row)) s
  | .v (.fn f cs)=>K (.v (.fn f cs)) s
  | .v (.yl b)=>K (.v (.yl b)) s
  |_=>none
 | .binOp b t x y _=>(val Pa s.e x).bind fun u=>(val Pa s.e y).bind fun v=>binop A b t u v fun r=>K (.v r) s
 | .unOp u _ x=>(val Pa s.e x).bind fun v=>(unop u v).bind fun r=>K (.v r) s
 | .convert src dst x=>(val Pa s.e x).bind fun v=>convert A s.H src dst v fun r H=>K (.v r) { s with H:=H }
 | .makeFunc (.func f) first fh=>if first.size=0 then(ah Pa s.e fh.toList).bind fun l=>K (.v (.fn f l)) s else none
 | .makeMap t r=>
  (match r with|none=>some ()|some x=>(match A.P.underlying t with|some (.map _ _)=>(val Pa s.e x).bind fun v=>(toInt v).map fun _=>()|_=>none)).bind fun _=>
   match A.P.underlying t with
   |some (.map kt et)=>(Cz A kt).bind fun k=>K (.v (.mp s.H.bl.length)) { s with H:=push s.H (nG A k et) }
   |_=>none
 | .makeSlice t l c=>(val Pa s.e l).bind fun u=>(val Pa s.e c).bind fun v=>makeSlice A s.H t u v fun r H=>K (.v r) { s with H:=H }
 | .slice t x lo hi none=>(val Pa s.e x).bind fun v=>(Qg Pa s.e lo).bind fun l=>(Qg Pa s.e hi).bind fun h=>slice A s.H t v l h fun r=>K (.v r) s
 | .slice t x none (some h) (some m)=>(val Pa s.e x).bind fun v=>(val Pa s.e h).bind fun a=>(val Pa s.e m).bind fun b=>if CV a&&CV b then(ri A s.H t v).bind fun(r,H)=>K (.v r) { s with H:=H }else none
 | .fieldAddr t x f=>(operand Pa s.e x).bind fun p=>(V.field? A t f).bind fun fd=>(V.size A fd.type).bind fun n=>if n=0 then none else(Ng fd.offset p).bind fun v=>K v s
 | .field t x f=>(val Pa s.e x).bind fun
  | .agg cs=>(V.field? A t f).bind fun fd=>(part A fd.type cs fd.offset).bind fun v=>K (.v v) s
  |_=>none
 | .indexAddr t x i=>(operand Pa s.e x).bind fun p=>(val Pa s.e i).bind fun n=>(toInt n).bind fun n=>indexAddr A s.H t p n fun v=>K v s
 | .index t x i=>(val Pa s.e x).bind fun v=>(val Pa s.e i).bind fun n=>(toInt n).bind fun n=>index A t v n fun r=>K (.v r) s
 | .lookup t x i ok=>(val Pa s.e x).bind fun m=>(val Pa s.e i).bind fun k=>lookup A s.H t m k ok fun r=>K (.v r) s
 | .mapUpdate t m k x| .insert t m k x=>(val Pa s.e m).bind fun m=>(val Pa s.e k).bind fun k=>(val Pa s.e x).bind fun v=>mapUpdate A s.H t m k v fun H=>K (.v .Sb) { s with H:=H }
 | .extract x i=>(val Pa s.e x).bind fun
  | .Sc vs=>vs[i]?.bind fun v=>K (.v v) s
  |_=>none
 | .call c=>
  (ah Pa s.e c.args.toList).bind fun args=>
   match c.callee with
   | .value f=>(val Pa s.e f).bind fun g=>env.call X g args s.H fun r H=>K (.v r) { s with H:=H }
   | .builtin b=>builtin A s.H b c.argTypes args fun r H=>K (.v r) { s with H:=H }
   |_=>none
 |_=>none
def put(s:St)(n:Nat)(dst:Option Nat)(v:US):Option St:=
 match dst with
 |none=>some s
 |some d=>if d<n then some { s with e:=(d,v)::s.e }else none
def tf(w:Bool):Option US->V.qf
 |some (.loc i _)=> .box i w
 |some (.v (.Ed _))=>if w then .heap w else .no
 |_=> .heap w
def jr:Option US->V.qf
 |some (.v (.sl _ _ _))|some (.v (.all _))|some (.v (.xp _ _))=> .heap false
 |_=> .no
def rh:Option (List UV)->V.qf
 |some [.mp _]=> .heap false
 |some _=> .no
 |none=> .heap false
def Zc(Fa:List Nat)(s:St)(o:Oper)(quiet:Bool):V.qf:=
 match o.op with
 | .load _ x=>tf false (operand Pa s.e x)
 | .indexAddr _ x _=>jr (operand Pa s.e x)
 | .store _ x _=>tf true (operand Pa s.e x)
 | .alloc _| .box _ _=>if V.Vg Fa o then .no else .heap false
 | .mapUpdate .. | .insert .. => .heap true
 | .call { callee:= .builtin .copy,.. }| .call { callee:= .builtin .delete,.. }=> .heap true
 | .call { callee:= .builtin .max,.. }| .call { callee:= .builtin .min,.. }=> .no
 | .call { callee:= .builtin .len,args,.. }=>rh (ah Pa s.e args.toList)
 | .call _=> .heap (!quiet)
 | .move _| .assign _| .pick .. | .build .. | .nilCheck _| .binOp .. | .unOp .. | .makeFunc .. | .fieldAddr .. | .field .. | .index .. | .extract .. => .no
 |_=> .heap false
def guard(os:Array Oper)(s:St)(o:Oper)(K:Bool->St->Option X):Option X:=
 match o.guard with
 |none=>K true s
 |some (j,want)=>
  match(os[j]?).bind (·.dst)with
  |some d=>match get s.e d with
   | .v (.bool b)=>cond b (K want { s with e:=(d,.v (.bool true))::s.e }) (K (!want) { s with e:=(d,.v (.bool false))::s.e })
   | .v (.Sc [])=>K false s
   |_=>none
  |none=>none
def ops(env:Env)(Fa:List Nat)(n:Nat)(all:Array Oper):List Oper->St->(St->Option X)->Option X
 |[],s,K=>K s
 |o::rest,s,K=>guard all s o fun
  |true,s=>op A Pa env Fa s o fun v s=>fU v fun v=>(put s n o.dst v).bind fun s=>fSt s fun s=>ops env Fa n all rest s K
  |false,s=>(put s n o.dst (.v (.Sc []))).bind fun s=>ops env Fa n all rest s K
def TN(env:Env)(Fa:List Nat)(t:V.qf)(s:St)(o:Oper)(K:US->St->Option X):Option X:=
 match t with
 | .heap true=>op A Pa env Fa s o K
 |_=>op A Pa env Fa { s with H:={ s.H with wm:=s.H.bl.length } } o fun v s'=>K v { s' with H:={ s'.H with wm:=s.H.wm } }
inductive Rec where
 |load (p:UV) (t:TypeId) (v:UV)
 |look (b:Nat) (k:KT) (es:List (td k×UV))
def yf(s:St)(o:Oper):Bool:=
 V.Wj A o&&match o.op with
  | .load _ x=>(match operand Pa s.e x with|some (.v (.ptr ..))|some (.v (.Dm ..))|some (.v (.Hp ..))=>true|_=>false)
  |_=>true
def Vz(m:Nat):US->Bool
 | .v (.mp b)=>decide (b<m)
 | .v (.fn _ [])| .v .Jf| .v .bf=>true
 |_=>false
def VU:UV->UV->Bool
 | .mp b,.mp b'=>b==b'
 | .fn f [],.fn f' []=>f==f'
 | .Jf,.Jf=>true
 | .bf,.bf=>true
 |_,_=>false
def XU:UV->UV->Bool
 | .fn f [],.fn f' []=>f==f'
 | .bf,.bf=>true
 |_,_=>false
def sameKey:(k k':KT)->td k->td k'->Bool
 | .int a,.int b=>fun(i j:Int)=>decide (a=b)&&decide (i=j)
 |_,_=>fun _ _=>false
def au(k k':KT):List (td k×UV)->List (td k'×UV)->Bool
 |[],[]=>true
 |(i,v)::es,(j,w)::ud=>sameKey k k' i j&&XU v w&&au k k' es ud
 |_,_=>false
def QN(s:St)(o:Oper)(v:US):Option Rec:=
 match o.op with
 | .load t x=>
  match operand Pa s.e x,v with
  |some (.v p),.v a=>some (.load p t a)
  |_,_=>none
 | .lookup _ x _ _=>
  match val Pa s.e x with
  |some (.mp b)=>(match s.H.bl[b]? with|some (.Zj k es)=>if au k k es es then some (.look b k es)else none|_=>none)
  |_=>none
 |_=>none
def GI(s:St):Rec->Bool
 | .load p t a=>(match load A s t (.v p)with|some a'=>VU a a'|none=>false)
 | .look b k es=>(match s.H.bl[b]? with|some (.Zj k' ud)=>au k k' es ud|_=>false)
def Xj(env:Env)(Fa:List Nat)(n:Nat)(all:Array Oper)(b:List Nat):List Oper->Nat->St->List V.qf->List Rec->(St->List V.qf->Option X)->Option X
 |[],_,s,l,_,K=>K s l
 |o::rest,i,s,l,rs,K=>guard all s o fun
  |true,s=>
   if yf A Pa s o then
    op A Pa env Fa s o fun v _=>fU v fun v=>
     if Vz s.H.bl.length v&&V.kR b i l then
      (QN Pa s o v).bind fun r=>(put s n o.dst v).bind fun LK=>fSt LK fun LK=>Xj env Fa n all b rest (i+1) LK (l++[.no]) (rs++[r]) K
     else none
   else
    TN A Pa env Fa (Zc Pa Fa s o (V.quietAt A Fa all.toList b i o)) s o fun v s'=>fU v fun v=>(put s' n o.dst v).bind fun LK=>fSt LK fun LK=>
     if rs.all (GI A LK)then Xj env Fa n all b rest (i+1) LK (l++[Zc Pa Fa s o (V.quietAt A Fa all.toList b i o)]) rs K else none
  |false,s=>(put s n o.dst (.v (.Sc []))).bind fun s=>Xj env Fa n all b rest (i+1) s (l++[.no]) rs K
def region(env:Env)(Fa:List Nat)(n:Nat)(os:Array Oper)(draw:Bool)(s:St)(K:St->Option X):Option X:=
 if draw then
  if V.aG os (V.vk os.toList [])then
   Xj A Pa env Fa n os (V.vk os.toList []) os.toList 0 s [] [] fun s l=>if V.Nu (V.vk os.toList []) l then K s else none
  else none
 else ops A Pa env Fa n os os.toList s K
def ids:Nat->UV->List Nat
 |0,_=>[]
 |_+1,.ptr b _|_+1,.Dm b _ _|_+1,.sl b _ _|_+1,.all b|_+1,.xp b _|_+1,.Hp b _ _ _|_+1,.mp b|_+1,.yl b=>[b]
 |d+1,.fn _ cs|d+1,.agg cs|d+1,.Sc cs=>cs.flatMap (ids d)
 |_+1,_=>[]
def oaj:UB->List Nat
 | .Ya row=>row.flatMap (ids 8)
 | .loop _ env _ _=>env.flatMap fun p=>ids 8 p.2
 | .um q=>ids 8 q
 |_=>[]
def caf:US->List Nat
 | .v x=>ids 8 x
 | .loc .. =>[]
def reach(H:UH):Nat->List Nat->List Nat->List Nat
 |0,_,seen=>seen
 |_+1,[],seen=>seen
 |d+1,b::w,seen=>if seen.contains b then reach H d w seen else reach H d (oaj (H.bl.getD b .dead)++w) (seen++[b])
def Zd:UB->Bool
 | .dead=>false
 |_=>true
def pos(b:Nat):List Nat->Nat->Option Nat
 |[],_=>none
 |x::l,i=>if x=b then some i else pos b l (i+1)
def Hj(φ:Nat->Option Nat):Nat->UV->UV
 |0,_=> .Sb
 |_+1,.ptr b c=>match φ b with|some b'=> .ptr b' c|none=> .Sb
 |_+1,.Dm b r c=>match φ b with|some b'=> .Dm b' r c|none=> .Sb
 |_+1,.sl b r n=>match φ b with|some b'=> .sl b' r n|none=> .Sb
 |_+1,.all b=>match φ b with|some b'=> .all b'|none=> .Sb
 |_+1,.xp b r=>match φ b with|some b'=> .xp b' r|none=> .Sb
 |_+1,.Hp b r j c=>match φ b with|some b'=> .Hp b' r j c|none=> .Sb
 |_+1,.mp b=>match φ b with|some b'=> .mp b'|none=> .Sb
 |_+1,.yl b=>match φ b with|some b'=> .yl b'|none=> .Sb
 |d+1,.fn f cs=> .fn f (cs.map (Hj φ d))
 |d+1,.agg cs=> .agg (cs.map (Hj φ d))
 |d+1,.Sc cs=> .Sc (cs.map (Hj φ d))
 |_+1,x=>x
def gu(φ:Nat->Option Nat):UB->UB
 | .Ya row=> .Ya (row.map (Hj φ 8))
 | .loop id env st pe=> .loop id (env.map fun p=>(p.1,Hj φ 8 p.2)) st pe
 | .um q=> .um (Hj φ 8 q)
 |x=>x
def Em:List (Nat×US)->List Nat->List Nat
 |[],l=>l
 |(_,.loc i _)::e,l=>Em e (if l.contains i then l else l++[i])
 |_::e,l=>Em e l
def eR(φ ψ:Nat->Option Nat):US->US
 | .v x=> .v (Hj φ 8 x)
 | .loc i c=>match ψ i with|some i'=> .loc i' c|none=> .v .Sb
def compact(keep:List Nat)(s:St):St:=
 let e:=keep.map fun i=>(i,get s.e i)
 let fs:=Em e []
 let rows:=fs.map fun i=>s.F.getD i []
 let bs:=ua s.base++(reach s.H 64 (ua s.base++(e.flatMap fun p=>caf p.2)++rows.flatMap fun row=>row.flatMap (ids 8)) []).filter (fun b=>decide (s.base<=b))
 let φ:=fun b=>pos b bs 0
 let ψ:=fun i=>pos i fs 0
 { e:=e.map fun p=>(p.1,eR φ ψ p.2),F:=rows.map fun row=>row.map (Hj φ 8),H:=⟨bs.map fun b=>gu φ (s.H.bl.getD b .dead),s.H.wm⟩,base:=s.base }
inductive Sh where
 |any
 |Sb
 |lit (c:CT)
 |own (c:CT)
 |cut (c:CT)
 |deep (c:CT)
 |mv (c:CT)
 |map (k:KT) (g:Bool) (c:CT)
 |agg (l:List Sh)
 |Sc (l:List Sh)
 |kill (l:List Nat) (sh:Sh)
 deriving Inhabited
def Sh.sB:Sh->List Nat
 | .kill l _=>l
 |_=>[]
def Sh.inner:Sh->Sh
 | .kill _ sh=>sh
 |sh=>sh
def tv:List Nat->UH->UH
 |[],H=>H
 |b::l,H=>tv l (Ra H b .dead)
def O0{k:KT}(g:Bool)(c:CT):List (td k×UV)->Option (List (td k×Gb c))
 |[]=>some []
 |(i,x)::es=>(V6 g c x).bind fun y=>(O0 g c es).bind fun l=>some ((i,y)::l)
def H8(d:Nat)(H:UH)(c:CT)(b:Nat):Option (List (Gb c)):=
 match H.bl[b]? with
 |some (.cells c' l)=>if h:c'=c then some (h ▸ l)else none
 |some (.deep c' l)=>if h:CT.slice c'=c/\1<d then some (h.1 ▸ l)else none
 |_=>none
def qg:Nat->Bool->Sh->UV->UH->Option (UV×UH)
  |0,_,_,_,_=>none
  |_+1,_,.any,x,H=>some (x,H)
  |_+1,_,.Sb,_,H=>some (.Sb,H)
  |_+1,_,.lit c,.Xa,H|_+1,_,.lit c,.Ud,H=>some (.lit c [],H)
  |d+1,fz,.lit c,.sl b r n,H=>if fz&&decide (0<d)&&decide (H.wm<=b)then(rowsOf H c (.sl b r n)).bind fun l=>some (.lit c l,Ra H b .dead)else none
  |d+1,fz,.lit c,.all b,H=>if fz&&decide (0<d)&&decide (H.wm<=b)then(H8 d H c b).bind fun l=>some (.lit c l,Ra H b .dead)else none
  |_+1,_,.lit _,.lit c l,H=>some (.lit c l,H)
  |_+1,_,.own c,.Xa,H|_+1,_,.own c,.Ud,H=>some (.all H.bl.length,push H (.cells c []))
  |_+1,_,.own c,.sl b 0 n,H=>
   match H.bl[b]? with
   |some (.cells c' l)=>if c'=c/\H.wm<=b then some (.all H.bl.length,push (Ra H b .dead) (.cells c' (l.take n)))else none
   |_=>none
  |_+1,_,.cut c,.Xa,H|_+1,_,.cut c,.Ud,H=>some (.sl H.bl.length 0 0,push H (.cells c []))
  |_+1,_,.cut _,.sl b r n,H=>some (.sl b r n,H)
  |_+1,_,.cut _,.all b,H=>match H.bl[b]? with|some (.cells _ l)=>some (.sl b 0 l.length,H)|_=>none
  |_+1,_,.own _,.all b,H=>some (.all b,H)
  |_+1,_,.deep c,.Xa,H|_+1,_,.deep c,.Ud,H=>some (.all H.bl.length,push H (.deep c []))
  |_+1,_,.deep _,.all b,H=>some (.all b,H)
  |_+1,_,.mv c,.all b,H=>
   match H.bl[b]? with
   |some (.cells c' l)=>if c'=c/\H.wm<=b then some (.all H.bl.length,push (Ra H b .dead) (.cells c' l))else none
   |_=>none
  |_+1,_,.map k g c,.mp b,H=>
   match H.bl[b]? with
   |some (.Zj k' es)=>if h:k'=k then(O0 g c (h ▸ es)).bind fun l=>some (.mp b,Ra H b (.oh k g c l))else none
   |some (.oh ..)=>some (.mp b,H)
   |_=>none
  |d+1,fz,.agg Fu,.agg cs,H=>(Oh (qg d fz) Fu cs H).map fun(l,H)=>(.agg l,H)
  |d+1,fz,.Sc Fu,.Sc cs,H=>(Oh (qg d fz) Fu cs H).map fun(l,H)=>(.Sc l,H)
  |_+1,_,_,_,_=>none
 where
  Oh (m:Sh->UV->UH->Option (UV×UH)):List Sh->List UV->UH->Option (List UV×UH)
   |[],[],H=>some ([],H)
   |s::ss,x::xs,H=>(m s x H).bind fun(x',H)=>(Oh m ss xs H).bind fun(Pp,H)=>some (x'::Pp,H)
   |_,_,_=>none
def kq(Fu:List (Nat×Sh)):List (Nat×US)->UH->Option (List (Nat×US)×UH)
 |[],H=>some ([],H)
 |(i,.v x)::e,H=>(match Fu.lookup i with|some sh=>qg 8 false sh x H|none=>some (x,H)).bind fun(x',H)=>(kq Fu e H).bind fun(e',H)=>some ((i,.v x')::e',H)
 |p::e,H=>(kq Fu e H).bind fun(e',H)=>some (p::e',H)
def rV(sh:Option (List Sh))(row:List UV)(H:UH):Option (List UV×UH):=
 match sh with
 |some l=>qg.Oh (qg 8 false) l row H
 |none=>some (row,H)
def Ny(Fu:List (Nat×List Sh)):Nat->List (List UV)->UH->Option (List (List UV)×UH)
 |_,[],H=>some ([],H)
 |i,row::F,H=>(rV (Fu.lookup i) row H).bind fun(Lb,H)=>(Ny Fu (i+1) F H).bind fun(F',H)=>some (Lb::F',H)
def Oy:List (Nat×List Sh)->UH->Option UH
 |[],H=>some H
 |(b,Fu)::l,H=>
  match H.bl[b]? with
  |some (.Ya row)=>(qg.Oh (qg 8 false) Fu row H).bind fun(Lb,H1)=>match H1.bl[b]? with|some (.Ya _)=>Oy l (Ra H1 b (.Ya Lb))|_=>none
  |_=>none
structure NF where
 keep:List Nat
 ON:List (Nat×Sh)
 boxes:List (Nat×List Sh)
 baj:List (Nat×List Sh)
def Bp(p:NF)(s:St):Option St:=
 if s.H.wm<=s.base then(kq p.ON (compact p.keep s).e (compact p.keep s).H).bind fun(e,H)=>(Ny p.boxes 0 (compact p.keep s).F H).bind fun(F,H)=>(Oy p.baj H).bind fun H=>if H.wm<=s.base then some (compact p.keep { e,F,H,base:=s.base })else none else none
def vf:Code->Nat
 | .region id _ _=>id
 | .seq a _=>vf a
 | .cond _ a _=>vf a
 | .block _ c=>vf c
 | .loop c=>vf c
 | .scope c=>vf c
 | .rangeFunc _ _ a _=>vf a
 |_=>0
def Zt(s:St)(x:Operand)(b:Bool):St:=
 match x with
 | .tmp t=>{ s with e:=(t,.v (.bool b))::s.e }
 |_=>s
def code(env:Env)(Fa:List Nat)(n:Nat):Code->St->(V.Ex->St->Option X)->Option X
 | .skip,s,K=>K .normal s
 | .label _,s,K=>K .normal s
 | .region id os draw,s,K=>cond (env.join (2000000+id)) (env.loop X (2000000+id) s K) (region A Pa env Fa n os draw s fun s=>K .normal s)
 | .seq a b,s,K=>code env Fa n a s fun
  | .normal,s=>code env Fa n b s K
  |ex,s=>K ex s
 | .cond c x y,s,K=>cond (env.join (1000000+vf x)) (env.loop X (1000000+vf x) s K) ((val Pa s.e c).bind fun
  | .bool b=>cond b (code env Fa n x (Zt s c true) K) (code env Fa n y (Zt s c false) K)
  |_=>none)
 | .block id c,s,K=>code env Fa n c s fun
  | .exit NC,s=>if NC=id then K .normal s else K (.exit NC) s
  |ex,s=>K ex s
 | .scope c,s,K=>code env Fa n c s K
 | .loop c,s,K=>env.loop X (vf c) s K
 | .rangeFunc g ps a b,s,K=>env.loop X (vf (.rangeFunc g ps a b)) s K
 | .exit id,s,K=>K (.exit id) s
 | .ret,s,K=>K .ret s
 |_,_,_=>none
def ve:List UV->Nat->List (Nat×US)
 |[],_=>[]
 |a::as,i=>(i,.v a)::ve as (i+1)
def results(s:St):List ResultVar->Option (List UV)
 |[]=>some []
 | .tmp t::rs=>(match get s.e t with| .v .Sb=>none| .v a=>some a|_=>none).bind fun a=>(results s rs).bind fun l=>some (a::l)
 | .cell p t::rs=>(load A s t (get s.e p)).bind fun a=>(results s rs).bind fun l=>some (a::l)
def result:List UV->UV
 |[a]=>a
 |l=> .Sc l
def gc(base:Nat)(r:UV)(H:UH):UV×UH:=
 let s:=compact [0] ⟨[(0,.v r)],[],H,base⟩
 (match get s.e 0 with| .v x=>x|_=> .Sb,s.H)
def AJ(env:Env)(Fa:List Nat)(fn:Func)(sh:Sh)(fz:Bool)(args:List UV)(H:UH)(K:UV->UH->Option X):Option X:=
 match fn.body with
 |none=>none
 |some c=>
  if args.length<=fn.ntmps then
   code A Pa env Fa fn.ntmps c ⟨ve args 0,[],H,H.bl.length⟩ fun
    | .exit _,_=>none
    |_,s=>(results A s fn.results.toList).bind fun l=>(qg 8 fz sh.inner (result l) s.H).bind fun(r,H1)=>if(!fz||Rb 8 r)&&decide (H1.wm<=H.bl.length)then K (gc H.bl.length r (tv sh.sB H1)).1 (gc H.bl.length r (tv sh.sB H1)).2 else none
  else none
def Yi:List Nat->List UV->List (Nat×US)->List (Nat×US)
 |p::ps,a::as,e=>Yi ps as ((p,.v a)::e)
 |_,_,e=>e
def nN(e:List (Nat×US))(ks:List Nat):List (Nat×UV):=ks.map fun i=>(i,match get e i with| .v a=>a|_=> .Sb)
def De(e:List (Nat×UV)):List (Nat×US):=e.map fun p=>(p.1,US.v p.2)
def EI(env:Env)(id n:Nat)(ks:List Nat)(g:Operand)(s:St)(K:V.Ex->St->Option X):Option X:=
 (val Pa s.e g).bind fun fv=>
  match fv with
  | .fn f cs=>
   if(match A.fns f with|some fn=>fn.body.isSome|none=>false)&&ks.all (fun i=>decide (i<n))then
    env.call X (.fn f cs) [.yl s.H.bl.length] (push s.H (.loop id (nN s.e ks) .ready .normal)) fun _ H'=>
     match H'.bl[s.H.bl.length]? with
     |some (.loop _ _ st pe)=>(match st with| .busy=>none|_=>K pe { s with H:=Ra H' s.H.bl.length .dead })
     |_=>none
   else none
  |_=>none
def KN(env:Env)(id:Nat)(r:RFn)(args:List UV)(H:UH)(K:UV->UH->Option X):Option X:=
 match args with
 | .yl b::as=>
  match H.bl[b]? with
  |some (.loop NC e .ready _)=>
   if NC=id/\as.length=r.ps.length/\H.wm<=b/\r.ps.all (fun p=>decide (p<r.n))=true then
    code A Pa env [] r.n r.assign ⟨Yi r.ps as (De e),[],H,H.bl.length⟩ fun
     | .normal,s=>
      match s.H.bl[b]? with
      |some (.loop nO e1 .ready pe1)=>
       code A Pa env [] r.n r.body { s with H:=Ra s.H b (.loop nO e1 .busy pe1) } fun ex s2=>
        match s2.H.bl[b]? with
        |some (.loop mO e2 _ _)=>
         if s2.H.wm<=H.bl.length then
          K (.bool ex.Ug) (gc H.bl.length (.bool ex.Ug) (Ra s2.H b (.loop mO e2 (if ex.Ug then .ready else .done) ex))).2
         else none
        |_=>none
      |_=>none
     |_,_=>none
   else none
  |_=>none
 |_=>none
abbrev Spec:=(X:Type)->List UV->UH->(UV->UH->Option X)->Option X
def rC:List (FuncId×Spec)->FuncId->Spec
 |[],_,_,_,_,_=>none
 |(f,g)::l,f',X,args,H,K=>if f'=f then g X args H K else rC l f' X args H K
def VH(spec:(X:Type)->UV->List UV->UH->(UV->UH->Option X)->Option X)(fv:UV)(args:List UV)(H:UH)(K:UV->UH->Option X):Option X:=
 let bs0:=(reach H 64 ((fv::args).flatMap (ids 8)) []).filter (fun b=>Zd (H.bl.getD b .dead))
 let lo:=bs0.filter (fun b=>decide (b<H.wm))
 let bs:=lo++bs0.filter (fun b=>decide (H.wm<=b))
 let φ:=fun b=>pos b bs 0
 spec X (Hj φ 8 fv) (args.map (Hj φ 8)) ⟨bs.map fun b=>gu φ (H.bl.getD b .dead),lo.length⟩ fun r H1=>
  let news:=(reach H1 64 (ua bs.length++ids 8 r) []).filter (fun b=>decide (bs.length<=b))
  let ψ:=fun b=>if b<bs.length then bs[b]? else(pos b news 0).map (H.bl.length+ ·)
  K (Hj ψ 8 r) ⟨(ua H.bl.length).map (fun b=>match φ b with|some j=>gu ψ (H1.bl.getD j .dead)|none=>H.bl.getD b .dead)++news.map (fun b=>gu ψ (H1.bl.getD b .dead)),H.wm⟩
def qQ(l:List (FuncId×Spec))(X:Type)(fv:UV)(args:List UV)(H:UH)(K:UV->UH->Option X):Option X:=
 VH (fun X fv args H K=>match fv with| .fn f cs=>rC l f X (args++cs) H K|_=>none) fv args H K
def Z0(l ly:List (FuncId×Spec))(X:Type)(fv:UV)(args:List UV)(H:UH)(K:UV->UH->Option X):Option X:=
 VH (fun X fv args H K=>
  match fv with
  | .fn f cs=>rC l f X (args++cs) H K
  | .yl b=>(match H.bl[b]? with|some (.loop id _ _ _)=>rC ly id X (.yl b::args) H K|_=>none)
  |_=>none) fv args H K
end
end Go.U
namespace Go.U
open Go
structure Mp where
 ι:Nat->Nat->Option Nat
 len:Nat->Nat->Nat
 top:Nat
inductive RV(m:Mp):UV->V.AV->Prop
 |Sb (a:V.AV):RV m .Sb a
 |bool (b:Bool):RV m (.bool b) (.bool b)
 |int (k:IntKind) (n:Int):RV m (.int k n) (.int k n)
 |str (s:ByteArray):RV m (.str s) (.str s)
 |Oe:RV m .Oe .Oe
 |ptr (b c x:Nat):m.ι b 0=some x->RV m (.ptr b c) (.ptr x 0 c)
 |Dm (b r c x:Nat):m.ι b 0=some x->r<m.len b 0->RV m (.Dm b r c) (.ptr x r c)
 |Ed (row:List UV) (Lb:List V.AV):Lb.length=row.length->(∀x∈row,closed 8 x=true)->
  (∀(c:Nat)(x:UV)(a:V.AV),row[c]?=some x->Lb[c]?=some a->RV m x a)->RV m (.Ed row) (.Ed Lb)
 |Xa:RV m .Xa .Xa
 |Ud:RV m .Ud .Ud
 |sl (b r n x:Nat):m.ι b 0=some x->r+n<=m.len b 0->RV m (.sl b r n) (.sl x r n)
 |Bt (b r:Nat) (a:V.AV):a= .Xa\/a= .Ud->RV m (.sl b r 0) a
 |all (b x:Nat):m.ι b 0=some x->RV m (.all b) (.sl x 0 (m.len b 0))
 |Yf (b:Nat) (a:V.AV):b<m.top->m.len b 0=0->a= .Xa\/a= .Ud->RV m (.all b) a
 |xp (b r x:Nat):m.ι b (r+1)=some x->RV m (.xp b r) (.sl x 0 (m.len b (r+1)))
 |vu (b r:Nat) (a:V.AV):b<m.top->m.len b (r+1)=0->a= .Xa\/a= .Ud->RV m (.xp b r) a
 |Hp (b r j c x:Nat):m.ι b (r+1)=some x->j<m.len b (r+1)->RV m (.Hp b r j c) (.ptr x j c)
 |lit (c:CT) (l:List (Gb c)) (rows:List (List V.AV)):rows.length=l.length->
  (∀(i:Nat)(row:List V.AV),rows[i]?=some row->row.length=width c)->
  (∀(i:Nat)(row:List V.AV)(k:Nat)(x:UV)(a:V.AV),rows[i]?=some row->(vw c l i)[k]?=some x->row[k]?=some a->RV m x a)->RV m (.lit c l) (.lit (width c) rows)
 |di (c:CT) (a:V.AV):a= .Xa\/a= .Ud->RV m (.lit c []) a
 |Jf:RV m .Jf .Jf
 |mp (b x:Nat):m.ι b 0=some x->RV m (.mp b) (.mp x)
 |bf:RV m .bf .bf
 |fn (f:FuncId) (cs:List UV) (as:List V.AV):as.length=cs.length->(∀(i:Nat)(x:UV)(a:V.AV),cs[i]?=some x->as[i]?=some a->RV m x a)->RV m (.fn f cs) (.fn f as)
 |yl (b x:Nat):m.ι b 0=some x->RV m (.yl b) (.yl x)
 |Rg:RV m .Rg .Rg
 |agg (cs:List UV) (as:List V.AV):as.length=cs.length->(∀(i:Nat)(x:UV)(a:V.AV),cs[i]?=some x->as[i]?=some a->RV m x a)->RV m (.agg cs) (.agg as)
 |Sc (cs:List UV) (as:List V.AV):as.length=cs.length->(∀(i:Nat)(x:UV)(a:V.AV),cs[i]?=some x->as[i]?=some a->RV m x a)->RV m (.Sc cs) (.Sc as)
def RL(m:Mp)(xs:List UV)(as:List V.AV):Prop:=as.length=xs.length/\∀(i:Nat)(x:UV)(a:V.AV),xs[i]?=some x->as[i]?=some a->RV m x a
structure Mp.Le(m m':Mp):Prop where
 of:∀b{s}x,m.ι b s=some x->m'.ι b s=some x/\m'.len b s=m.len b s
 top:m.top<=m'.top
 len:∀b,b<m.top->m'.len b=m.len b
theorem Mp.Le.refl(m:Mp):m.Le m:=⟨fun _ _ _ h=>⟨h,rfl⟩,va _,fun _ _=>rfl⟩
theorem Mp.Le.trans{m m' m'':Mp}(h:m.Le m')(h':m'.Le m''):m.Le m'':=⟨fun b _ x hb=>⟨(h'.of b x (h.of b x hb).1).1,(h'.of b x (h.of b x hb).1).2.trans (h.of b x hb).2⟩,Ib h.top h'.top,fun b hb=>(h'.len b (zb hb h.top)).trans (h.len b hb)⟩
theorem Ih:∀(c:CT)(x:Gb c),(enc c x).length=width c
 | .bool,_=>rfl
 | .int _,_=>rfl
 | .str,_=>rfl
 | .slice _,_=>rfl
 | .pair a b,(x,y)=>by simp[enc,width,Ih a x,Ih b y]
theorem Gl:∀(c:CT)(x:Gb c)(v:UV),v∈enc c x->closed 8 v=true
 | .bool,_,v,h=>by simp[enc]at h;subst h;rfl
 | .int _,_,v,h=>by simp[enc]at h;subst h;rfl
 | .str,_,v,h=>by simp[enc]at h;subst h;rfl
 | .slice _,_,v,h=>by simp[enc]at h;subst h;rfl
 | .pair a b,(x,y),v,h=>by
  simp only[enc,Mw]at h;rcases h with h|h
  ·exact Gl a x v h
  ·exact Gl b y v h
theorem Ef(c:CT)(l:List (Gb c))(i:Nat):(vw c l i).length=width c:=Ih c _
theorem Xd(c:CT)(l:List (Gb c))(i:Nat)(v:UV)(h:v∈vw c l i):closed 8 v=true:=Gl c _ v h
theorem RV.mono{m m':Mp}(h:m.Le m'){x:UV}{a:V.AV}(hx:RV m x a):RV m' x a:=by
 induction hx with
 |Sb a=>exact .Sb a
 |bool b=>exact .bool b
 |int k n=>exact .int k n
 |str s=>exact .str s
 |Oe=>exact .Oe
 |ptr b c x hb=>exact .ptr b c x (h.of b x hb).1
 |Dm b r c x hb hr=>exact .Dm b r c x (h.of b x hb).1 (by rw[(h.of b x hb).2];exact hr)
 |Ed row Lb hl hc _ ih=>exact .Ed row Lb hl hc ih
 |Xa=>exact .Xa
 |Ud=>exact .Ud
 |sl b r n x hb hr=>exact .sl b r n x (h.of b x hb).1 (by rw[(h.of b x hb).2];exact hr)
 |Bt b r a ha=>exact .Bt b r a ha
 |all b x hb=>rw[<- (h.of b x hb).2];exact .all b x (h.of b x hb).1
 |Yf b a hb hl ha=>exact .Yf b a (zb hb h.top) (by rw[h.len b hb];exact hl) ha
 |xp b r x hb=>rw[<- (h.of b x hb).2];exact .xp b r x (h.of b x hb).1
 |vu b r a hb hl ha=>exact .vu b r a (zb hb h.top) (by rw[h.len b hb];exact hl) ha
 |Hp b r j c x hb hr=>exact .Hp b r j c x (h.of b x hb).1 (by rw[(h.of b x hb).2];exact hr)
 |lit c l rows h1 h2 _ ih=>exact .lit c l rows h1 h2 ih
 |di c a ha=>exact .di c a ha
 |Jf=>exact .Jf
 |mp b x hb=>exact .mp b x (h.of b x hb).1
 |bf=>exact .bf
 |fn f cs as hl _ ih=>exact .fn f cs as hl ih
 |yl b x hb=>exact .yl b x (h.of b x hb).1
 |Rg=>exact .Rg
 |agg cs as hl _ ih=>exact .agg cs as hl ih
 |Sc cs as hl _ ih=>exact .Sc cs as hl ih
theorem RL.mono{m m':Mp}(h:m.Le m'){xs:List UV}{as:List V.AV}(hx:RL m xs as):RL m' xs as:=⟨hx.1,fun i x a h1 h2=>(hx.2 i x a h1 h2).mono h⟩
theorem RV.free{m:Mp}(m':Mp){x:UV}{a:V.AV}(hx:RV m x a):∀d,closed d x=true->RV m' x a:=by
 induction hx with
 |Sb a=>intro d hd;cases d<;>simp[closed]at hd
 |bool b=>intro _ _;exact .bool b
 |int k n=>intro _ _;exact .int k n
 |str s=>intro _ _;exact .str s
 |Oe=>intro _ _;exact .Oe
 |ptr b c x hb=>intro d hd;cases d<;>simp[closed]at hd
 |Dm b r c x hb hr=>intro d hd;cases d<;>simp[closed]at hd
 |Ed row Lb hl hc _ ih=>intro _ _;exact .Ed row Lb hl hc fun c x a h1 h2=>ih c x a h1 h2 8 (hc x (Nb h1))
 |Xa=>intro _ _;exact .Xa
 |Ud=>intro _ _;exact .Ud
 |sl b r n x hb hr=>intro d hd;cases d<;>simp[closed]at hd
 |Bt b r a ha=>intro d hd;cases d<;>simp[closed]at hd
 |all b x hb=>intro d hd;cases d<;>simp[closed]at hd
 |Yf b a hb hl ha=>intro d hd;cases d<;>simp[closed]at hd
 |xp b r x hb=>intro d hd;cases d<;>simp[closed]at hd
 |vu b r a hb hl ha=>intro d hd;cases d<;>simp[closed]at hd
 |Hp b r j c x hb hr=>intro d hd;cases d<;>simp[closed]at hd
 |lit c l rows h1 h2 _ ih=>intro _ _;exact .lit c l rows h1 h2 fun i row k x a k1 k2 k3=>ih i row k x a k1 k2 k3 8 (Xd c l i x (Nb k2))
 |di c a ha=>intro _ _;exact .di c a ha
 |Jf=>intro _ _;exact .Jf
 |mp b x hb=>intro d hd;cases d<;>simp[closed]at hd
 |bf=>intro _ _;exact .bf
 |fn f cs as hl _ ih=>
  intro d hd;cases d with
  |zero=>simp[closed]at hd
  |succ d=>exact .fn f cs as hl fun i x a h1 h2=>ih i x a h1 h2 d (tc.1 (by simpa[closed]using hd) x (Nb h1))
 |yl b x hb=>intro d hd;cases d<;>simp[closed]at hd
 |Rg=>intro _ _;exact .Rg
 |agg cs as hl _ ih=>intro d hd;cases d<;>simp[closed]at hd
 |Sc cs as hl _ ih=>intro d hd;cases d<;>simp[closed]at hd
theorem RV.qW{m:Mp}(m':Mp):∀(d:Nat){x:UV}{a:V.AV},RV m x a->Rb d x=true->RV m' x a
 |0,x,a,_,hd=>by simp[Rb]at hd
 |d+1,x,a,hx,hd=>by
  cases x with
  |agg cs=>
   cases hx with
   |agg _ as hl hr=>exact .agg cs as hl fun i x a h1 h2=>RV.qW m' d (hr i x a h1 h2) (tc.1 (by simpa[Rb]using hd) x (Nb h1))
  |Sc cs=>
   cases hx with
   |Sc _ as hl hr=>exact .Sc cs as hl fun i x a h1 h2=>RV.qW m' d (hr i x a h1 h2) (tc.1 (by simpa[Rb]using hd) x (Nb h1))
  |_=>exact hx.free m' 8 (by simpa[Rb]using hd)
theorem RV.Hj{m m':Mp}{φ:Nat->Option Nat}(h:∀b b',φ b=some b'->m'.ι b'=m.ι b/\m'.len b'=m.len b/\b'<m'.top):∀(d:Nat){x:UV}{a:V.AV},RV m x a->RV m' (U.Hj φ d x) a
 |0,x,a,_=> .Sb a
 |d+1,x,a,hx=>by
  cases hx with
  |Sb a=>exact .Sb a
  |bool b=>exact .bool b
  |int k n=>exact .int k n
  |str s=>exact .str s
  |Oe=>exact .Oe
  |ptr b c x hb=>
   simp only[U.Hj];split
   ·rename_i b' Ld;exact .ptr b' c x (by rw[(h b b' Ld).1];exact hb)
   ·exact .Sb _
  |Dm b r c x hb hr=>
   simp only[U.Hj];split
   ·rename_i b' Ld;exact .Dm b' r c x (by rw[(h b b' Ld).1];exact hb) (by rw[(h b b' Ld).2.1];exact hr)
   ·exact .Sb _
  |Ed row Lb hl hc hr=>exact RV.free m' (.Ed row Lb hl hc hr) 1 rfl
  |Xa=>exact .Xa
  |Ud=>exact .Ud
  |sl b r n x hb hr=>
   simp only[U.Hj];split
   ·rename_i b' Ld;exact .sl b' r n x (by rw[(h b b' Ld).1];exact hb) (by rw[(h b b' Ld).2.1];exact hr)
   ·exact .Sb _
  |Bt b r a ha=>
   simp only[U.Hj];split
   ·exact .Bt _ r a ha
   ·exact .Sb _
  |all b x hb=>
   simp only[U.Hj];split
   ·rename_i b' Ld;rw[<- (h b b' Ld).2.1];exact .all b' x (by rw[(h b b' Ld).1];exact hb)
   ·exact .Sb _
  |Yf b a hb hl ha=>
   simp only[U.Hj];split
   ·rename_i b' Ld;exact .Yf b' a (h b b' Ld).2.2 (by rw[(h b b' Ld).2.1];exact hl) ha
   ·exact .Sb _
  |xp b r x hb=>
   simp only[U.Hj];split
   ·rename_i b' Ld;rw[<- (h b b' Ld).2.1];exact .xp b' r x (by rw[(h b b' Ld).1];exact hb)
   ·exact .Sb _
  |vu b r a hb hl ha=>
   simp only[U.Hj];split
   ·rename_i b' Ld;exact .vu b' r a (h b b' Ld).2.2 (by rw[(h b b' Ld).2.1];exact hl) ha
   ·exact .Sb _
  |Hp b r j c x hb hr=>
   simp only[U.Hj];split
   ·rename_i b' Ld;exact .Hp b' r j c x (by rw[(h b b' Ld).1];exact hb) (by rw[(h b b' Ld).2.1];exact hr)
   ·exact .Sb _
  |lit c l rows h1 h2 h3=>exact RV.free m' (.lit c l rows h1 h2 h3) 1 rfl
  |di c a ha=>exact .di c a ha
  |Jf=>exact .Jf
  |mp b x hb=>
   simp only[U.Hj];split
   ·rename_i b' Ld;exact .mp b' x (by rw[(h b b' Ld).1];exact hb)
   ·exact .Sb _
  |bf=>exact .bf
  |fn f cs as hl hr=>
   refine .fn f _ as (by simp[hl]) fun i x a h1 h2=> ?_
   rw[Tb,ia]at h1;obtain⟨y,hy,rfl⟩:=h1;exact RV.Hj h d (hr i y a hy h2)
  |yl b x hb=>
   simp only[U.Hj];split
   ·rename_i b' Ld;exact .yl b' x (by rw[(h b b' Ld).1];exact hb)
   ·exact .Sb _
  |Rg=>exact .Rg
  |agg cs as hl hr=>
   refine .agg _ as (by simp[hl]) fun i x a h1 h2=> ?_
   rw[Tb,ia]at h1;obtain⟨y,hy,rfl⟩:=h1;exact RV.Hj h d (hr i y a hy h2)
  |Sc cs as hl hr=>
   refine .Sc _ as (by simp[hl]) fun i x a h1 h2=> ?_
   rw[Tb,ia]at h1;obtain⟨y,hy,rfl⟩:=h1;exact RV.Hj h d (hr i y a hy h2)
variable [TB:GC]
def Sj(m:Mp)(z n:Nat)(f:Nat->List UV)(rows:List (List V.AV)):Prop:=
 (∀i,i<n->(f i).length=z/\∀x∈f i,closed 8 x=true)/\(∀(i:Nat)(row:List V.AV),i<n->rows[i]?=some row->row.length=z)/\
 ∀(i:Nat)(row:List V.AV)(c:Nat)(x:UV)(a:V.AV),i<n->rows[i]?=some row->(f i)[c]?=some x->row[c]?=some a->RV m x a
def Ph:(k:KT)->td k->V.AV
 | .int k,i=> .int k i
 | .str,s=> .str s
def MR(k:KT)(m:Mp):List (td k×UV)->List (V.AV×V.AV)->Prop
 |[],[]=>True
 |(i,v)::es,(key,a)::ud=>key=Ph k i/\RV m v a/\Rb 8 v=true/\MR k m es ud
 |_,_=>False
def Qj{k:KT}(g:Bool)(c:CT)(l:List (td k×Gb c)):List (td k×UV):=l.map fun p=>(p.1,valOf g c p.2)
def Il(m:Mp)(Hv:V.AH)(o:Option Nat)(c:CT)(l:List (Gb c))(a:V.AV):Prop:=
 (l.length=0/\o=none/\(a= .Xa\/a= .Ud))\/
  ∃y rows ty,o=some y/\a= .sl y 0 l.length/\Hv.bl[y]?=some (.cells rows (width c) ty)/\l.length<=rows.length/\Sj m (width c) l.length (vw c l) rows
def RB(m:Mp)(Hv:V.AH)(b:Nat):UB->Prop
 | .dead=>True
 | .Ya row=>∃x Lb ty,m.ι b 0=some x/\Hv.bl[x]?=some (.cells [Lb] Lb.length ty)/\RL m row Lb
 | .cells c l=>m.len b 0=l.length/\((l.length=0/\m.ι b 0=none)\/∃x rows ty,m.ι b 0=some x/\Hv.bl[x]?=some (.cells rows (width c) ty)/\l.length<=rows.length/\Sj m (width c) l.length (vw c l) rows)
 | .deep c l=>m.len b 0=l.length/\(∀r,m.len b (r+1)=(l.getD r []).length/\(l.length<=r->m.ι b (r+1)=none))/\((l.length=0/\m.ι b 0=none)\/∃x rows ty,m.ι b 0=some x/\Hv.bl[x]?=some (.cells rows 1 ty)/\l.length<=rows.length/\
  ∀r,r<l.length->∃a,rows[r]?=some [a]/\Il m Hv (m.ι b (r+1)) c (l.getD r []) a)
 | .Zj k es=>∃x ud,m.ι b 0=some x/\Hv.bl[x]?=some (.map ud)/\MR k m es ud
 | .oh k g c l=>∃x ud,m.ι b 0=some x/\Hv.bl[x]?=some (.map ud)/\MR k m (Qj g c l) ud
 | .loop id env st pe=>∃x Mm,m.ι b 0=some x/\Hv.bl[x]?=some (.loop (TB.rf id).n (ua (TB.rf id).n) Mm (TB.rf id).ps (TB.rf id).assign (TB.rf id).body st pe.jump)/\∀t,match get (De env) t,V.get (V.De Mm) t with
   | .v y,.v a=>RV m y a
   |_,_=>False
 | .um q=>∃x p q',m.ι b 0=some x/\Hv.bl[x]?=some (.cells [[p,q']] 2 (some (TB.bT,2)))/\(p= .Oe\/p= .ptr x 0 0)/\RV m q q'/\q'≠ .Ud
 | .yp s=>m.len b 0=s.size/\((s.size=0/\m.ι b 0=none)\/∃x,m.ι b 0=some x/\Hv.bl[x]?=some (.cells (V.uc s) 1 (some (TB.uT,1)))/\0<s.size/\s.size<=70368744177664)
def live(H:UH)(b:Nat):Prop:=∃x,H.bl[b]?=some x/\Zd x=true
structure RH(m:Mp)(H:UH)(Hv:V.AH):Prop where
 Ie:∀b{s}x,m.ι b s=some x->b<H.bl.length/\x<Hv.bl.length
 Vc:∀b y,H.bl[b]?=some y->RB m Hv b y
 pn:∀b b'{s s'}x,live H b->live H b'->m.ι b s=some x->m.ι b' s'=some x->b=b'/\s=s'
 wm:∀b{s}x,m.ι b s=some x->H.wm<=b->Hv.wm<=x
 top:Hv.wm<=Hv.bl.length
 len:m.top=H.bl.length
theorem RH.inj{m:Mp}{H:UH}{Hv:V.AH}(h:RH m H Hv)(b b':Nat){s s':Nat}(x:Nat)(h1:live H b)(h2:live H b')(h3:m.ι b s=some x)(h4:m.ι b' s'=some x):b=b':=(h.pn b b' x h1 h2 h3 h4).1
def lU(n:Nat)(m m':Mp):Prop:=n<=m'.top/\∀b,b<n->m'.ι b=m.ι b/\m'.len b=m.len b
structure Oj(n:Nat)(m:Mp)(Hv:V.AH)(m':Mp)(Nc:V.AH):Prop where
 Bk:lU n m m'
 stay:∀x,x<Hv.bl.length->(∀b s,m.ι b s≠some x)->Nc.bl[x]?=Hv.bl[x]?
 new:∀b{s}x,m'.ι b s=some x->(∃b0 s0,m.ι b0 s0=some x)\/Hv.bl.length<=x
 len:Hv.bl.length<=Nc.bl.length
 wm:Nc.wm=Hv.wm
theorem lU.refl{n:Nat}{m:Mp}(h:n<=m.top):lU n m m:=⟨h,fun _ _=>⟨rfl,rfl⟩⟩
theorem lU.trans{n n':Nat}{m m1 m2:Mp}(h:lU n m m1)(h':lU n' m1 m2)(hn:n<=n'):lU n m m2:=⟨Ib hn h'.1,fun b hb=>⟨(h'.2 b (by omega)).1.trans (h.2 b hb).1,(h'.2 b (by omega)).2.trans (h.2 b hb).2⟩⟩
theorem lU.less{n n':Nat}{m m1:Mp}(h:lU n m m1)(hn:n'<=n):lU n' m m1:=⟨Ib hn h.1,fun b hb=>h.2 b (by omega)⟩
theorem Oj.refl{n:Nat}{m:Mp}(Hv:V.AH)(hn:n<=m.top):Oj n m Hv m Hv:=⟨.refl hn,fun _ _ _=>rfl,fun b _ x h=> .inl ⟨b,_,h⟩,va _,rfl⟩
theorem Oj.less{n n':Nat}{m m1:Mp}{H H1:V.AH}(h:Oj n m H m1 H1)(hn:n'<=n):Oj n' m H m1 H1:=⟨h.Bk.less hn,h.stay,h.new,h.len,h.wm⟩
theorem Oj.trans{n n':Nat}{m m1 m2:Mp}{H H1 H2:V.AH}(h:Oj n m H m1 H1)(h':Oj n' m1 H1 m2 H2)(hn:n<=n'):Oj n m H m2 H2 where
 Bk:=h.Bk.trans h'.Bk hn
 stay x hx hn:=(h'.stay x (zb hx h.len) fun b s hb=>by
  rcases h.new b x hb with⟨b0,s0,h0⟩|h0
  ·exact hn b0 s0 h0
  ·omega).trans (h.stay x hx hn)
 new b s x hb:=by
  rcases h'.new b x hb with⟨b0,s0,h0⟩|h0
  ·exact h.new b0 x h0
  ·exact .inr (Ib h.len h0)
 len:=Ib h.len h'.len
 wm:=h'.wm.trans h.wm
def RS(m:Mp)(φ:Nat->Option Nat):US->V.SV->Prop
 | .v .Sb,_=>True
 | .v x,.v a=>RV m x a
 | .loc i c,.loc j c'=>φ i=some j/\c'=c
 |_,_=>False
structure RF(m:Mp)(φ:Nat->Option Nat)(F:List (List UV))(Fv:List (List V.AV)):Prop where
 Ie:∀i j,φ i=some j->i<F.length/\j<Fv.length
 row:∀i row,F[i]?=some row->∃j Lb,φ i=some j/\Fv[j]?=some Lb/\RL m row Lb
 inj:∀i i' j,φ i=some j->φ i'=some j->i=i'
def RE(m:Mp)(φ:Nat->Option Nat)(e:List (Nat×US))(ev:List (Nat×V.SV)):Prop:=∀t,RS m φ (get e t) (V.get ev t)
structure vm(m:Mp)(φ:Nat->Option Nat)(s:St)(sv:V.S):Prop where
 h:RH m s.H sv.H
 f:RF m φ s.F sv.F
 e:RE m φ s.e sv.e
 b:s.base<=s.H.bl.length
end Go.U
namespace Go.U
open Go
variable [TB:GC]
theorem Za{α:Type}{l:List α}{i:Nat}{x:α}(h:l[i]?=some x):i<l.length:=by
 rcases Vb i l.length with h'|h'
 ·exact h'
 ·simp[Ab h']at h
section
variable {A:V.yh}{Pa:Nat->Option (List UV)}{m:Mp}{φ:Nat->Option Nat}
def Ge(A:V.yh)(Pa:Nat->Option (List UV)):Prop:=∀i row,Pa i=some row->∃Lb,A.Pa i=some Lb/\∀m,RV m (.Ed row) (.Ed Lb)
theorem vy{v:Value}{x:UV}(h:nj v=some x):∃a,V.Ae v=some a/\∀m,RV m x a:=by
 unfold nj at h;split at h<;>simp at h<;>subst h
 ·exact⟨_,rfl,fun _=> .bool _⟩
 ·exact⟨_,rfl,fun _=> .int _ _⟩
 ·exact⟨_,rfl,fun _=> .str _⟩
 ·exact⟨_,rfl,fun _=> .Oe⟩
 ·exact⟨_,rfl,fun _=> .Xa⟩
 ·exact⟨_,rfl,fun _=> .Jf⟩
 ·exact⟨_,rfl,fun _=> .bf⟩
 ·exact⟨_,rfl,fun _=> .Rg⟩
theorem QH{v:Value}{x:UV}(h:nj v=some x):closed 8 x=true:=by
 unfold nj at h;split at h<;>simp at h<;>subst h<;>rfl
theorem RD{v:Value}{x:UV}(h:nj v=some x):Rb 8 x=true:=by
 unfold nj at h;split at h<;>simp at h<;>subst h<;>rfl
theorem RL.nil{m:Mp}:RL m [] []:=⟨rfl,fun i x a h=>by simp at h⟩
theorem RL.cons{m:Mp}{x:UV}{a:V.AV}{xs:List UV}{as:List V.AV}(h:RV m x a)(hs:RL m xs as):RL m (x::xs) (a::as):=
 ⟨by simp[hs.1],fun i y b h1 h2=>by
  cases i with
  |zero=>simp at h1 h2;subst h1;subst h2;exact h
  |succ i=>exact hs.2 i y b (by simpa using h1) (by simpa using h2)⟩
theorem RL.get{m:Mp}{xs:List UV}{as:List V.AV}(h:RL m xs as){i:Nat}{x:UV}(hx:xs[i]?=some x):∃a,as[i]?=some a/\RV m x a:=by
 have:=Za hx;have ha:=Ba (l:=as) (i:=i) (by rw[h.1];exact this);exact⟨_,ha,h.2 i x _ hx ha⟩
theorem RL.drop{m:Mp}{xs:List UV}{as:List V.AV}(h:RL m xs as)(n:Nat):RL m (xs.drop n) (as.drop n):=
 ⟨by simp[h.1],fun i x a h1 h2=>h.2 (n+i) x a (by simpa[Ic]using h1) (by simpa[Ic]using h2)⟩
theorem RL.take{m:Mp}{xs:List UV}{as:List V.AV}(h:RL m xs as)(n:Nat):RL m (xs.take n) (as.take n):=
 ⟨by simp[h.1],fun i x a h1 h2=>by
  rw[Db]at h1 h2;split at h1
  ·rename_i hi;rw[if_pos hi]at h2;exact h.2 i x a h1 h2
  ·simp at h1⟩
theorem RL.append{m:Mp}{xs ys:List UV}{as bs:List V.AV}(h:RL m xs as)(h':RL m ys bs):RL m (xs++ys) (as++bs):=
 ⟨by simp[h.1,h'.1],fun i x a h1 h2=>by
  rcases Vb i xs.length with hi|hi
  ·rw[Ka hi]at h1;rw[Ka (by rw[h.1];exact hi)]at h2;exact h.2 i x a h1 h2
  ·rw[Na hi]at h1;rw[Na (by rw[h.1];exact hi),h.1]at h2;exact h'.2 _ x a h1 h2⟩
theorem RL.set{m:Mp}{xs:List UV}{as:List V.AV}(h:RL m xs as)(i:Nat){x:UV}{a:V.AV}(hx:RV m x a):RL m (xs.set i x) (as.set i a):=
 ⟨by simp[h.1],fun j y b h1 h2=>by
  rw[Ob]at h1 h2;split at h1
  ·rename_i e;rw[if_pos e]at h2;split at h1
   ·rename_i hl;rw[if_pos (by rw[h.1];exact hl)]at h2;simp at h1 h2;subst h1;subst h2;exact hx
   ·simp at h1
  ·rename_i e;rw[if_neg e]at h2;exact h.2 j y b h1 h2⟩
theorem RL.free{m:Mp}(m':Mp){xs:List UV}{as:List V.AV}(h:RL m xs as)(hc:∀x∈xs,closed 8 x=true):RL m' xs as:=
 ⟨h.1,fun i x a h1 h2=>(h.2 i x a h1 h2).free m' 8 (hc x (Nb h1))⟩
theorem Hl:∀{vs:List Value}{xs:List UV},Rc vs=some xs->∃ as,V.Rc vs=some as/\(∀m,RL m xs as)/\∀x∈xs,closed 8 x=true
 |[],xs,h=>by simp[Rc]at h;subst h;exact⟨[],rfl,fun _=> .nil,fun x hx=>by simp at hx⟩
 |v::vs,xs,h=>by
  simp only[Rc,aa]at h;obtain⟨x,hx,ys,Nx,h⟩:=h;simp at h;subst h;obtain⟨a,h1,h2⟩:=vy hx;obtain⟨as,h3,h4,h5⟩:=Hl Nx;refine⟨a::as,by simp[V.Rc,h1,h3],fun m=> .cons (h2 m) (h4 m),fun y hy=> ?_⟩;rcases Yb.1 hy with rfl|hy
  ·exact QH hx
  ·exact h5 y hy
theorem Np{t:TypeId}{z:List UV}(h:zero A t=some z):∃z',V.zero A t=some z'/\(∀m,RL m z z')/\∀x∈z,closed 8 x=true:=by
 unfold zero at h;unfold V.zero;split at h
 ·rename_i v hv;rw[hv];exact Hl h
 ·simp at h
theorem BQ{t:TypeId}{z:UV}(h:zeroV A t=some z):∃z',V.zeroV A t=some z'/\(∀m,RV m z z')/\Rb 8 z=true:=by
 unfold zeroV at h;unfold V.zeroV;split at h
 ·rename_i cs hv;rw[hv];simp only[ia]at h;obtain⟨xs,Lr,rfl⟩:=h;unfold Rc at Lr;have gaf:Rc cs.toList=some xs:=by unfold Rc;exact Lr
  obtain⟨as,h1,h2,h3⟩:=Hl gaf;refine⟨.agg as,by simp[h1],fun m=> .agg _ _ (h2 m).1 (h2 m).2,?_⟩;simp only[Rb,tc];intro x hx;have h8:=h3 x hx;obtain⟨i,hi⟩:=me hx;have Kz:∀{vs:List Value}{xs:List UV},Rc vs=some xs->∀x∈xs,Rb 7 x=true:=by
   intro vs;induction vs with
   |nil=>intro xs h x hx;simp[Rc]at h;subst h;simp at hx
   |cons v vs ih=>
    intro xs h x hx;simp only[Rc,aa]at h;obtain⟨y,hy,ys,Nx,h⟩:=h;simp at h;subst h;rcases Yb.1 hx with rfl|hx
    ·unfold nj at hy;split at hy<;>simp at hy<;>subst hy<;>rfl
    ·exact ih Nx x hx
  exact Kz gaf x hx
 ·rename_i v Uc hv;obtain⟨a,h1,h2⟩:=vy h;refine⟨a,?_,h2,RD h⟩;rw[hv];cases v<;>first|exact h1|(exfalso;exact Uc _ rfl)
 ·simp at h
theorem Bd(hg:Ge A Pa){e:List (Nat×US)}{ev:List (Nat×V.SV)}{x:Operand}{v:US}(h:operand Pa e x=some v)(he:RE m φ e ev):∃vv,V.operand A ev x=some vv/\RS m φ v vv:=by
 have up:∀{y:UV}{a:V.AV},RV m y a->RS m φ (.v y) (.v a):=fun{y a}h=>by cases y<;>first|trivial|exact h
 cases x with
 |tmp t=>simp[operand]at h;subst h;exact⟨_,rfl,he t⟩
 |const c=>
  simp only[operand,ia]at h;obtain⟨y,hy,rfl⟩:=h;obtain⟨a,h1,h2⟩:=vy hy;exact⟨.v a,by simp[V.operand,h1],up (h2 m)⟩
 |global i=>
  simp only[operand,ia]at h;obtain⟨row,hr,rfl⟩:=h;obtain⟨Lb,h1,h2⟩:=hg i row hr;exact⟨.v (.Ed Lb),by simp[V.operand,h1],up (h2 m)⟩
 |func f=>
  simp[operand]at h;subst h;exact⟨.v (.fn f []),rfl,up (.fn f [] [] rfl fun i x a h=>by simp at h)⟩
theorem RS.val{x:UV}{vv:V.SV}(h:RS m φ (.v x) vv)(Uc:x≠ .Sb):∃a,vv= .v a/\RV m x a:=by
 cases vv with
 |v a=>cases x<;>first|exact absurd rfl Uc|exact⟨a,rfl,h⟩
 |loc i c=>cases x<;>first|exact absurd rfl Uc|exact h.elim
theorem RV.rs{x:UV}{a:V.AV}(h:RV m x a):RS m φ (.v x) (.v a):=by cases x<;>first|trivial|exact h
theorem OA{e:List (Nat×US)}{x:Operand}{a:UV}(h:val Pa e x=some a):operand Pa e x=some (.v a)/\a≠ .Sb:=by
 unfold val at h;split at h
 ·simp at h
 ·rename_i y Uc hy;simp at h;subst h;exact⟨hy,Uc⟩
 ·simp at h
theorem Lc(hg:Ge A Pa){e:List (Nat×US)}{ev:List (Nat×V.SV)}{x:Operand}{a:UV}(h:val Pa e x=some a)(he:RE m φ e ev):∃a',V.val A ev x=some a'/\RV m a a':=by
 obtain⟨h1,h2⟩:=OA h;obtain⟨vv,h3,h4⟩:=Bd hg h1 he;obtain⟨a',rfl,h5⟩:=h4.val h2;exact⟨a',by simp[V.val,h3],h5⟩
theorem Rp(hg:Ge A Pa){e:List (Nat×US)}{ev:List (Nat×V.SV)}(he:RE m φ e ev):∀{l:List Operand}{as:List UV},ah Pa e l=some as->∃Pm,V.ah A ev l=some Pm/\RL m as Pm
 |[],as,h=>by simp[ah]at h;subst h;exact⟨[],rfl,.nil⟩
 |x::l,as,h=>by
  simp only[ah,aa]at h;obtain⟨a,ha,ys,Nx,h⟩:=h;simp at h;subst h;obtain⟨a',h1,h2⟩:=Lc hg ha he;obtain⟨Pm,h3,h4⟩:=Rp hg he Nx;exact⟨a'::Pm,by simp[V.ah,h1,h3],.cons h2 h4⟩
def RP(m:Mp)(ps:List (Nat×UV))(qs:List (Nat×V.AV)):Prop:=qs.map (·.1)=ps.map (·.1)/\RL m (ps.map (·.2)) (qs.map (·.2))
theorem Br(hg:Ge A Pa){e:List (Nat×US)}{ev:List (Nat×V.SV)}(he:RE m φ e ev):∀{l:List (Nat×Operand)}{ps:List (Nat×UV)},parts Pa e l=some ps->∃qs,V.parts A ev l=some qs/\RP m ps qs
 |[],ps,h=>by simp[parts]at h;subst h;exact⟨[],rfl,rfl,.nil⟩
 |(i,x)::l,ps,h=>by
  simp only[parts,aa]at h;obtain⟨a,ha,ys,Nx,h⟩:=h;simp at h;subst h;obtain⟨a',h1,h2⟩:=Lc hg ha he;obtain⟨qs,h3,h4,h5⟩:=Br hg he Nx;exact⟨(i,a')::qs,by simp[V.parts,h1,h3],by simp[h4],.cons h2 h5⟩
theorem Qs{x:UV}{a:V.AV}{cs:List UV}(h:x.cells?=some cs)(hx:RV m x a):∃Jh,a.cells?=some Jh/\RL m cs Jh:=by
 have one:∀{y:UV}{b:V.AV},RV m y b->cs=[y]->b.cells?=some [b]->∃Jh,b.cells?=some Jh/\RL m cs Jh:=fun{y b}h1 h2 h3=>⟨_,h3,by rw[h2];exact .cons h1 .nil⟩
 cases hx with
 |Sb a=>simp[UV.cells?]at h
 |Sc cs as hl hr=>simp[UV.cells?]at h
 |agg cs as hl hr=>simp[UV.cells?]at h;subst h;exact⟨as,rfl,hl,hr⟩
 |bool b=>simp[UV.cells?]at h;exact one (.bool b) h.symm rfl
 |int k n=>simp[UV.cells?]at h;exact one (.int k n) h.symm rfl
 |str s=>simp[UV.cells?]at h;exact one (.str s) h.symm rfl
 |Oe=>simp[UV.cells?]at h;exact one .Oe h.symm rfl
 |ptr b c x hb=>simp[UV.cells?]at h;exact one (.ptr b c x hb) h.symm rfl
 |Dm b r c x hb hr=>simp[UV.cells?]at h;exact one (.Dm b r c x hb hr) h.symm rfl
 |Ed row Lb hl hc hr=>simp[UV.cells?]at h;exact one (.Ed row Lb hl hc hr) h.symm rfl
 |Xa=>simp[UV.cells?]at h;exact one .Xa h.symm rfl
 |Ud=>simp[UV.cells?]at h;exact one .Ud h.symm rfl
 |sl b r n x hb hr=>simp[UV.cells?]at h;exact one (.sl b r n x hb hr) h.symm rfl
 |Bt b r a ha=>simp[UV.cells?]at h;exact one (.Bt b r a ha) h.symm (by rcases ha with rfl|rfl<;>rfl)
 |all b x hb=>simp[UV.cells?]at h;exact one (.all b x hb) h.symm rfl
 |Yf b a hb hl ha=>simp[UV.cells?]at h;exact one (.Yf b a hb hl ha) h.symm (by rcases ha with rfl|rfl<;>rfl)
 |xp b r x hb=>simp[UV.cells?]at h;exact one (.xp b r x hb) h.symm rfl
 |vu b r a hb hl ha=>simp[UV.cells?]at h;exact one (.vu b r a hb hl ha) h.symm (by rcases ha with rfl|rfl<;>rfl)
 |Hp b r j c x hb hr=>simp[UV.cells?]at h;exact one (.Hp b r j c x hb hr) h.symm rfl
 |lit c l rows h1 h2 h3=>simp[UV.cells?]at h;exact one (.lit c l rows h1 h2 h3) h.symm rfl
 |di c a ha=>simp[UV.cells?]at h;exact one (.di c a ha) h.symm (by rcases ha with rfl|rfl<;>rfl)
 |Jf=>simp[UV.cells?]at h;exact one .Jf h.symm rfl
 |mp b x hb=>simp[UV.cells?]at h;exact one (.mp b x hb) h.symm rfl
 |bf=>simp[UV.cells?]at h;exact one .bf h.symm rfl
 |fn f Jh as hl hr=>simp[UV.cells?]at h;exact one (.fn f Jh as hl hr) h.symm rfl
 |yl b x hb=>simp[UV.cells?]at h;exact one (.yl b x hb) h.symm rfl
 |Rg=>simp[UV.cells?]at h;exact one .Rg h.symm rfl
theorem pg{t:TypeId}{row:List UV}{Lb:List V.AV}{c:Nat}{x:UV}(h:part A t row c=some x)(hr:RL m row Lb):∃a,V.part A t Lb c=some a/\RV m x a:=by
 unfold part at h;unfold V.part;cases ha:V.isAgg A t with
 |none=>simp[ha]at h
 |some b=>
  simp only[ha,ga]at h ⊢;cases b with
  |true=>
   simp only[aa]at h ⊢;obtain⟨n,hn,h⟩:=h;split at h
   ·rename_i hle;simp at h;subst h;refine⟨.agg ((Lb.drop c).take n),⟨n,hn,by rw[if_pos (by rw[hr.1];exact hle)]⟩,.agg _ _ ((hr.drop c).take n).1 ((hr.drop c).take n).2⟩
   ·simp at h
  |false=>exact hr.get h
theorem Jk{row new Cf:List UV}{Lb Uae:List V.AV}{c:Nat}(h:Bf row c new=some Cf)(hr:RL m row Lb)(hn:RL m new Uae):∃Kg,V.Bf Lb c Uae=some Kg/\RL m Cf Kg/\Cf.length=row.length:=by
 unfold Bf at h;unfold V.Bf;split at h
 ·rename_i hle;simp at h;subst h;refine⟨_,by rw[if_pos (by rw[hn.1,hr.1];exact hle)],?_,by simp;omega⟩;rw[hn.1];exact(hr.take c).append (hn.append (hr.drop _))
 ·simp at h
theorem RL.Wh{x:UV}{xs:List UV}{as:List V.AV}(h:RL m (x::xs) as):∃a Pm,as=a::Pm/\RV m x a/\RL m xs Pm:=by
 cases as with
 |nil=>have:=h.1;simp at this
 |cons a as=>exact⟨a,as,rfl,h.2 0 x a rfl rfl,by have:=h.1;simpa using this,fun i y b k1 k2=>h.2 (i+1) y b (by simpa using k1) (by simpa using k2)⟩
theorem NH:∀(c:CT)(cs:List UV)(x:Gb c)(r:List UV),dec c cs=some (x,r)->∀{as:List V.AV},RL m cs as->∃n_ m_,as=n_++m_/\RL m (enc c x) n_/\RL m r m_
 | .bool,[],x,r,h,as,ha=>by simp[dec]at h
 | .bool,v::cs,x,r,h,as,ha=>by
  cases v<;>simp[dec]at h
  obtain⟨rfl,rfl⟩:=h;obtain⟨a,Pm,rfl,h1,h2⟩:=ha.Wh;exact⟨[a],Pm,rfl,.cons h1 .nil,h2⟩
 | .int k,[],x,r,h,as,ha=>by simp[dec]at h
 | .int k,v::cs,x,r,h,as,ha=>by
  cases v<;>simp[dec]at h
  obtain⟨rfl,rfl,rfl⟩:=h;obtain⟨a,Pm,rfl,h1,h2⟩:=ha.Wh;exact⟨[a],Pm,rfl,.cons h1 .nil,h2⟩
 | .str,[],x,r,h,as,ha=>by simp[dec]at h
 | .str,v::cs,x,r,h,as,ha=>by
  cases v<;>simp[dec]at h
  obtain⟨rfl,rfl⟩:=h;obtain⟨a,Pm,rfl,h1,h2⟩:=ha.Wh;exact⟨[a],Pm,rfl,.cons h1 .nil,h2⟩
 | .slice c,[],x,r,h,as,ha=>by simp[dec]at h
 | .slice c,v::cs,x,r,h,as,ha=>by
  obtain⟨a,Pm,rfl,h1,h2⟩:=ha.Wh;have fin:∀{x':List (Gb c)},some (x',cs)=some (x,r)->RV m (.lit c x') a->∃n_ m_,a::Pm=n_++m_/\RL m (enc (.slice c) x) n_/\RL m r m_:=fun{x'}he hv=>by
   injection he with he
   injection he with e1 e2
   subst e1;subst e2;exact⟨[a],Pm,rfl,.cons hv .nil,h2⟩
  cases v with
  |lit c' l=>
   have h:(if h:c'=c then some ((h ▸ l:List (Gb c)),cs)else none)=some (x,r):=h;split at h
   ·rename_i hc;subst hc;exact fin h h1
   ·simp at h
  |Xa=>exact fin h (by cases h1;exact .di c _ (.inl rfl))
  |Ud=>exact fin h (by cases h1;exact .di c _ (.inr rfl))
  |_=>simp[dec]at h
 | .pair a b,cs,x,r,h,as,ha=>by
  simp only[dec,aa]at h;obtain⟨⟨x1,r1⟩,h1,⟨x2,r2⟩,h2,h⟩:=h;simp at h;obtain⟨rfl,rfl⟩:=h;obtain⟨n_,m_,rfl,k1,k2⟩:=NH a cs x1 r1 h1 ha;obtain⟨as3,as4,rfl,k3,k4⟩:=NH b r1 x2 _ h2 k2;exact⟨n_++as3,as4,(xd ..).symm,k1.append k3,k4⟩
theorem Gn{c:CT}{cs:List UV}{x:Gb c}(h:OH c cs=some x){as:List V.AV}(ha:RL m cs as):RL m (enc c x) as:=by
 unfold OH at h;split at h
 ·rename_i y hy;simp at h;subst h;obtain⟨n_,m_,rfl,k1,k2⟩:=NH c cs y [] hy ha;have:m_=[]:=by have:=k2.1;simpa using this
  subst this
  simpa using k1
 ·simp at h
theorem zK{c:CT}:∀{rs:List (List UV)}{l:List (Gb c)},P0 c rs=some l->l.length=rs.length/\∀(i:Nat)(r:List UV),rs[i]?=some r->∀{as:List V.AV},RL m r as->RL m (vw c l i) as
 |[],l,h=>by simp[P0]at h;subst h;exact⟨rfl,fun i r h=>by simp at h⟩
 |r::rs,l,h=>by
  simp only[P0,aa]at h;obtain⟨x,hx,l',hl,h⟩:=h;simp at h;subst h;obtain⟨h1,h2⟩:=zK hl;refine⟨by simp[h1],fun i r' hi as ha=> ?_⟩;cases i with
  |zero=>simp at hi;subst hi;exact Gn hx ha
  |succ i=>exact h2 i r' (by simpa using hi) ha
end
end Go.U
namespace Go.U
open Go
variable [TB:GC]
def Mp.Ni(m:Mp)(b:Nat)(f:Nat->Option Nat)(g:Nat->Nat):Mp:={ ι:=fun i=>if i=b then f else m.ι i,len:=fun i=>if i=b then g else m.len i,top:=b+1 }
def f0(x:Option Nat)(s:Nat):Option Nat:=if s=0 then x else none
theorem zA{x:Option Nat}{s xv:Nat}(h:f0 x s=some xv):s=0/\x=some xv:=by
 unfold f0 at h;split at h
 ·rename_i e;exact⟨e,h⟩
 ·simp at h
def Mp.add(m:Mp)(b:Nat)(x:Option Nat)(n:Nat):Mp:=m.Ni b (f0 x) fun _=>n
theorem gh(m:Mp)(b:Nat)(f:Nat->Option Nat)(g:Nat->Nat):(m.Ni b f g).ι b=f:=by simp[Mp.Ni]
theorem Xq(m:Mp)(b:Nat)(f:Nat->Option Nat)(g:Nat->Nat):(m.Ni b f g).len b=g:=by simp[Mp.Ni]
theorem nf(m:Mp){b b':Nat}(f:Nat->Option Nat)(g:Nat->Nat)(h:b'≠b):(m.Ni b f g).ι b'=m.ι b':=by simp[Mp.Ni,h]
theorem Ej(m:Mp){b b':Nat}(f:Nat->Option Nat)(g:Nat->Nat)(h:b'≠b):(m.Ni b f g).len b'=m.len b':=by simp[Mp.Ni,h]
theorem be(m:Mp)(b:Nat)(x:Option Nat)(n:Nat):(m.add b x n).ι b 0=x:=by rw[Mp.add,gh];rfl
theorem Ki{m:Mp}{b:Nat}{x:Option Nat}{n s xv:Nat}(h:(m.add b x n).ι b s=some xv):s=0/\x=some xv:=by rw[Mp.add,gh]at h;exact zA h
theorem zd(m:Mp)(b:Nat)(x:Option Nat)(n:Nat):(m.add b x n).len b 0=n:=by rw[Mp.add,Xq]
theorem Gf(m:Mp){b b':Nat}(x:Option Nat)(n:Nat)(h:b'≠b):(m.add b x n).ι b'=m.ι b':=nf m _ _ h
theorem CN(m:Mp){b b':Nat}(x:Option Nat)(n:Nat)(h:b'≠b):(m.add b x n).len b'=m.len b':=Ej m _ _ h
section
variable {m:Mp}{H:UH}{Hv Nc:V.AH}
theorem Ec(Hv:V.AH)(x x':Nat)(y:V.AB):(V.Ra Hv x y).bl[x']?=if x=x' then(if x<Hv.bl.length then some y else none)else Hv.bl[x']?:=by
 simp only[V.Ra,Ob]
theorem Lu(H:UH)(b b':Nat)(y:UB):(Ra H b y).bl[b']?=if b=b' then(if b<H.bl.length then some y else none)else H.bl[b']?:=by
 simp only[Ra,Ob]
theorem jE(H:UH)(y:UB)(b:Nat):(push H y).bl[b]?=if b<H.bl.length then H.bl[b]? else if b=H.bl.length then some y else none:=by
 simp only[push];rcases Nat.lt_trichotomy b H.bl.length with h|h|h
 ·simp[h,Ka]
 ·subst h;simp
 ·rw[Na (by omega),if_neg (by omega),if_neg (by omega)];exact Ab (by simp;omega)
theorem Ke(H:V.AH)(y:V.AB)(b:Nat):(V.push H y).bl[b]?=if b<H.bl.length then H.bl[b]? else if b=H.bl.length then some y else none:=by
 simp only[V.push];rcases Nat.lt_trichotomy b H.bl.length with h|h|h
 ·simp[h,Ka]
 ·subst h;simp
 ·rw[Na (by omega),if_neg (by omega),if_neg (by omega)];exact Ab (by simp;omega)
theorem MR.mono{k:KT}{m m':Mp}(hle:m.Le m'):∀{es:List (td k×UV)}{ud:List (V.AV×V.AV)},MR k m es ud->MR k m' es ud
 |[],[],_=>trivial
 |(_,_)::_,(_,_)::_,h=>⟨h.1,h.2.1.mono hle,h.2.2.1,h.2.2.2.mono hle⟩
 |[],_::_,h=>h.elim
 |_::_,[],h=>h.elim
theorem Il.keep{m m':Mp}{o:Option Nat}{c:CT}{l:List (Gb c)}{a:V.AV}(h:Il m Hv o c l a)(hf:∀x y,closed 8 x=true->RV m x y->RV m' x y)(jc:∀x,o=some x->Nc.bl[x]?=Hv.bl[x]?):Il m' Nc o c l a:=by
 rcases h with⟨h1,h2,h3⟩|⟨y,rows,ty,h1,h2,h3,h4,h5,h6,h7⟩
 ·exact .inl ⟨h1,h2,h3⟩
 ·exact .inr ⟨y,rows,ty,h1,h2,by rw[jc y h1];exact h3,h4,h5,h6,fun i row c y a k0 k1 k2 k3=>hf y a ((h5 i k0).2 y (Nb k2)) (h7 i row c y a k0 k1 k2 k3)⟩
theorem RB.keep{m m':Mp}{b:Nat}{y:UB}(h:RB m Hv b y)(hle:m.Le m')(cp:m'.ι b=m.ι b)(hl:m'.len b=m.len b)(jc:Zd y=true->∀{s}x,m.ι b s=some x->Nc.bl[x]?=Hv.bl[x]?):RB m' Nc b y:=by
 cases y with
 |dead=>trivial
 |Ya row=>
  obtain⟨x,Lb,ty,h1,h2,h3⟩:=h;exact⟨x,Lb,ty,by rw[cp];exact h1,by rw[jc rfl x h1];exact h2,h3.mono hle⟩
 |um q=>
  obtain⟨x,p,q',h1,h2,h3,h4,h5⟩:=h;exact⟨x,p,q',by rw[cp];exact h1,by rw[jc rfl x h1];exact h2,h3,h4.mono hle,h5⟩
 |yp s=>
  obtain⟨h1,h2⟩:=h;refine⟨by rw[hl];exact h1,?_⟩;rcases h2 with⟨h2,h3⟩|⟨x,h2,h3,h4⟩
  ·exact .inl ⟨h2,by rw[cp];exact h3⟩
  ·exact .inr ⟨x,by rw[cp];exact h2,by rw[jc rfl x h2];exact h3,h4⟩
 |cells c l=>
  obtain⟨h1,h2⟩:=h;refine⟨by rw[hl];exact h1,?_⟩;rcases h2 with⟨h2,h3⟩|⟨x,rows,ty,h2,h3,h4,h5,h6,h7⟩
  ·exact .inl ⟨h2,by rw[cp];exact h3⟩
  ·exact .inr ⟨x,rows,ty,by rw[cp];exact h2,by rw[jc rfl x h2];exact h3,h4,h5,h6,fun i row c y a k0 k1 k2 k3=>(h7 i row c y a k0 k1 k2 k3).mono hle⟩
 |deep c l=>
  obtain⟨h1,h0,h2⟩:=h;refine⟨by rw[hl];exact h1,fun r=>by rw[hl,cp];exact h0 r,?_⟩;rcases h2 with⟨h2,h3⟩|⟨x,rows,ty,h2,h3,h4,h5⟩
  ·exact .inl ⟨h2,by rw[cp];exact h3⟩
  ·refine .inr ⟨x,rows,ty,by rw[cp];exact h2,by rw[jc rfl x h2];exact h3,h4,fun r hr=> ?_⟩;obtain⟨a,k1,k2⟩:=h5 r hr;rw[cp];exact⟨a,k1,k2.keep (fun _ _ _ h=>h.mono hle) (fun x hx=>jc rfl x hx)⟩
 |Zj k es=>
  obtain⟨x,ud,h1,h2,h3⟩:=h;exact⟨x,ud,by rw[cp];exact h1,by rw[jc rfl x h1];exact h2,h3.mono hle⟩
 |oh k g c l=>
  obtain⟨x,ud,h1,h2,h3⟩:=h;exact⟨x,ud,by rw[cp];exact h1,by rw[jc rfl x h1];exact h2,h3.mono hle⟩
 |loop id env st pe=>
  obtain⟨x,Mm,h1,h2,h3⟩:=h;refine⟨x,Mm,by rw[cp];exact h1,by rw[jc rfl x h1];exact h2,fun t=> ?_⟩;have:=h3 t
  revert this
  split
  ·exact fun h=>h.mono hle
  ·exact fun h=>h
theorem sg{b b':Nat}{y:UB}(h:live (Ra H b y) b'):(b'=b/\Zd y=true)\/(b'≠b/\live H b'):=by
 obtain⟨x,hx,hl⟩:=h;rw[Lu]at hx;split at hx
 ·rename_i e;split at hx
  ·simp at hx;subst hx;exact .inl ⟨e.symm,hl⟩
  ·simp at hx
 ·rename_i e;exact .inr ⟨fun e'=>e e'.symm,x,hx,hl⟩
theorem RH.Gae(h:RH m H Hv){b x s0:Nat}{y:UB}{yv:V.AB}(hb:live H b)(hx:m.ι b s0=some x)(hy:RB m (V.Ra Hv x yv) b y):RH m (Ra H b y) (V.Ra Hv x yv)/\Oj m.top m Hv m (V.Ra Hv x yv):=by
 refine⟨⟨fun b' s x' Ld=> ?_,fun b' y' Wf=> ?_,fun b1 b2 s s' x' h1 h2 e1 e2=> ?_,h.wm,by simpa[V.Ra]using h.top,by simpa[Ra]using h.len⟩,⟨.refl (va _),fun x' Dk hn=> ?_,fun b' s x' Ld=> .inl ⟨b',s,Ld⟩,by simp[V.Ra],rfl⟩⟩
 ·have:=h.Ie b' x' Ld;simpa[Ra,V.Ra]using this
 ·rw[Lu]at Wf;split at Wf
  ·rename_i e;subst e;split at Wf
   ·simp at Wf;subst Wf;exact hy
   ·simp at Wf
  ·rename_i e;refine(h.Vc b' y' Wf).keep (.refl m) rfl rfl fun hl s x' Dk=> ?_
   rw[Ec,if_neg]
   rintro rfl
   exact e (h.inj b b' x hb ⟨y',Wf,hl⟩ hx Dk)
 ·have k1:live H b1:=by rcases sg h1 with⟨rfl,_⟩|⟨_,h⟩<;>assumption
  have k2:live H b2:=by rcases sg h2 with⟨rfl,_⟩|⟨_,h⟩<;>assumption
  exact h.pn b1 b2 x' k1 k2 e1 e2
 ·rw[Ec,if_neg (fun e=>hn b s0 (by rw[<- e];exact hx))]
theorem RH.set(h:RH m H Hv){b x:Nat}{y:UB}{yv:V.AB}(hb:live H b)(hx:m.ι b 0=some x)(hy:RB m (V.Ra Hv x yv) b y):RH m (Ra H b y) (V.Ra Hv x yv)/\Oj m.top m Hv m (V.Ra Hv x yv):=h.Gae hb hx hy
theorem RH.kill(h:RH m H Hv)(b:Nat):RH m (Ra H b .dead) Hv:=by
 refine⟨fun b' s x' Ld=>by simpa[Ra]using h.Ie b' x' Ld,fun b' y' Wf=> ?_,fun b1 b2 s s' x' h1 h2 e1 e2=> ?_,h.wm,h.top,by simpa[Ra]using h.len⟩
 ·rw[Lu]at Wf;split at Wf
  ·split at Wf
   ·simp at Wf;subst Wf;trivial
   ·simp at Wf
  ·exact h.Vc b' y' Wf
 ·have k:∀{b'},live (Ra H b .dead) b'->live H b':=fun h=>by rcases sg h with⟨_,h'⟩|⟨_,h⟩;simp[Zd]at h';exact h
  exact h.pn b1 b2 x' (k h1) (k h2) e1 e2
theorem RH.other(h:RH m H Hv){x:Nat}(hx:∀b s,live H b->m.ι b s≠some x)(yv:V.AB):RH m H (V.Ra Hv x yv):=by
 refine⟨fun b' s x' Ld=>by simpa[V.Ra]using h.Ie b' x' Ld,fun b' y' Wf=> ?_,h.pn,h.wm,by simpa[V.Ra]using h.top,h.len⟩;refine(h.Vc b' y' Wf).keep (.refl m) rfl rfl fun hl s x' Dk=> ?_
 rw[Ec,if_neg]
 rintro rfl
 exact hx b' s ⟨y',Wf,hl⟩ Dk
theorem RH.alike(h:RH m H Hv)(jc:∀b{s}x,live H b->m.ι b s=some x->Nc.bl[x]?=Hv.bl[x]?)(hlen:Nc.bl.length=Hv.bl.length)(ag:Nc.wm=Hv.wm):RH m H Nc:=by
 refine⟨fun b' s x' Ld=>by rw[hlen];exact h.Ie b' x' Ld,fun b' y' Wf=> ?_,h.pn,by rw[ag];exact h.wm,by rw[hlen,ag];exact h.top,h.len⟩;exact(h.Vc b' y' Wf).keep (.refl m) rfl rfl fun hl s x' Dk=>jc b' x' ⟨y',Wf,hl⟩ Dk
theorem uQ(h:RH m H Hv)(f:Nat->Option Nat)(g:Nat->Nat):m.Le (m.Ni H.bl.length f g):=⟨fun b s x' hb=>by
 have:=(h.Ie b x' hb).1;rw[nf m f g (by omega),Ej m f g (by omega)];exact⟨hb,rfl⟩,by have:=h.len;simp[Mp.Ni];omega,fun b hb=>by have:=h.len;rw[Ej m f g (by omega)]⟩
theorem DN(h:RH m H Hv)(x:Option Nat)(n:Nat):m.Le (m.add H.bl.length x n):=uQ h _ _
theorem IK(h:RH m H Hv)(f:Nat->Option Nat)(g:Nat->Nat):lU m.top m (m.Ni H.bl.length f g):=⟨by simp[Mp.Ni];have:=h.len;omega,fun b hb=>by
 have:=h.len;exact⟨nf m f g (by omega),Ej m f g (by omega)⟩⟩
theorem Mg(h:RH m H Hv)(x:Option Nat)(n:Nat):lU m.top m (m.add H.bl.length x n):=IK h _ _
theorem RH.L7(h:RH m H Hv){y:UB}{f:Nat->Option Nat}{g:Nat->Nat}(jc:∀b{s}x',live H b->m.ι b s=some x'->Nc.bl[x']?=Hv.bl[x']?)(hlen:Hv.bl.length<=Nc.bl.length)(ag:Nc.wm=Hv.wm)
  (hx:∀s xv,f s=some xv->xv<Nc.bl.length/\Hv.wm<=xv/\∀b s',live H b->m.ι b s'≠some xv) (hfi:∀s s' xv,f s=some xv->f s'=some xv->s=s') (hy:RB (m.Ni H.bl.length f g) Nc H.bl.length y):
  RH (m.Ni H.bl.length f g) (U.push H y) Nc/\m.Le (m.Ni H.bl.length f g):=by
 have hle:=uQ h f g;have XL:∀{b},live (U.push H y) b->b=H.bl.length\/live H b:=fun{b}⟨y',Wf,hl⟩=>by
  rw[jE]at Wf;split at Wf
  ·exact .inr ⟨y',Wf,hl⟩
  ·split at Wf
   ·rename_i e;exact .inl e
   ·simp at Wf
 have Uc:∀{b},live H b->b≠H.bl.length:=fun{b}⟨y',Wf,_⟩=>by have:=Za Wf;omega
 refine⟨⟨fun b s x' hb=> ?_,fun b y' Wf=> ?_,fun b1 b2 s s' x' h1 h2 e1 e2=> ?_,fun b s x' hb hw=> ?_,by rw[ag];exact Ib h.top hlen,by simp[Mp.Ni,U.push]⟩,hle⟩
 ·by_cases e:b=H.bl.length
  ·subst e;rw[gh]at hb;exact⟨by simp[U.push],(hx s x' hb).1⟩
  ·rw[nf m f g e]at hb;have:=h.Ie b x' hb;exact⟨by simp[U.push];omega,by omega⟩
 ·rw[jE]at Wf;split at Wf
  ·rename_i Ac;exact(h.Vc b y' Wf).keep hle (nf m f g (by omega)) (Ej m f g (by omega)) fun hl s x' Dk=>jc b x' ⟨y',Wf,hl⟩ Dk
  ·split at Wf
   ·rename_i e;simp at Wf;subst Wf;subst e;exact hy
   ·simp at Wf
 ·rcases XL h1 with rfl|l1<;>rcases XL h2 with rfl|l2
  ·rw[gh]at e1 e2;exact⟨rfl,hfi s s' x' e1 e2⟩
  ·rw[gh]at e1;rw[nf m f g (Uc l2)]at e2;exact absurd e2 ((hx s x' e1).2.2 b2 s' l2)
  ·rw[gh]at e2;rw[nf m f g (Uc l1)]at e1;exact absurd e1 ((hx s' x' e2).2.2 b1 s l1)
  ·rw[nf m f g (Uc l1)]at e1;rw[nf m f g (Uc l2)]at e2;exact h.pn b1 b2 x' l1 l2 e1 e2
 ·rw[ag];by_cases e:b=H.bl.length
  ·subst e;rw[gh]at hb;exact(hx s x' hb).2.1
  ·rw[nf m f g e]at hb;exact h.wm b x' hb hw
theorem RH.push(h:RH m H Hv){y:UB}{x:Option Nat}{n:Nat}(jc:∀b{s}x',live H b->m.ι b s=some x'->Nc.bl[x']?=Hv.bl[x']?)(hlen:Hv.bl.length<=Nc.bl.length)(ag:Nc.wm=Hv.wm)
  (hx:∀xv,x=some xv->xv<Nc.bl.length/\Hv.wm<=xv/\∀b s,live H b->m.ι b s≠some xv) (hy:RB (m.add H.bl.length x n) Nc H.bl.length y):
  RH (m.add H.bl.length x n) (U.push H y) Nc/\m.Le (m.add H.bl.length x n):=
 h.L7 jc hlen ag (fun s xv e=>hx xv (zA e).2) (fun s s' xv e e'=>by rw[(zA e).1,(zA e').1]) hy
theorem RH.new(h:RH m H Hv){y:UB}{yv:V.AB}{n:Nat}(hy:RB (m.add H.bl.length (some Hv.bl.length) n) (V.push Hv yv) H.bl.length y):
  RH (m.add H.bl.length (some Hv.bl.length) n) (U.push H y) (V.push Hv yv)/\m.Le (m.add H.bl.length (some Hv.bl.length) n)/\Oj m.top m Hv (m.add H.bl.length (some Hv.bl.length) n) (V.push Hv yv):=by
 have h1:=h.push (Nc:=V.push Hv yv) (y:=y) (x:=some Hv.bl.length) (n:=n) (fun b s x' hl hb=>by rw[Ke,if_pos (h.Ie b x' hb).2]) (by simp[V.push]) rfl
  (fun xv e=>by
   simp at e;subst e;exact⟨by simp[V.push],h.top,fun b s _ hb=>by have:=(h.Ie b _ hb).2;omega⟩) hy
 refine⟨h1.1,h1.2,⟨Mg h _ _,fun x hx _=>by rw[Ke,if_pos hx],fun b s x hb=> ?_,by simp[V.push],rfl⟩⟩;by_cases e:b=H.bl.length
 ·subst e;obtain⟨_,e⟩:=Ki hb;simp at e;subst e;exact .inr (va _)
 ·rw[Gf _ _ _ e]at hb;exact .inl ⟨b,s,hb⟩
theorem G1{m:Mp}{b0:Nat}{f:Nat->Option Nat}{g:Nat->Nat}{N:Nat}(hf:∀s x,f s=some x->(∃b1 s1,m.ι b1 s1=some x)\/N<=x)(b:Nat){s:Nat}(x:Nat)(hb:(m.Ni b0 f g).ι b s=some x):(∃b1 s1,m.ι b1 s1=some x)\/N<=x:=by
 by_cases e:b=b0
 ·subst e;rw[gh]at hb;exact hf s x hb
 ·rw[nf _ _ _ e]at hb;exact .inl ⟨b,s,hb⟩
def DF(x:Nat)(F:Nat->Option Nat):Nat->Option Nat
 |0=>some x
 |r+1=>F r
def j_{c:CT}(L:List (List (Gb c))):Nat->Nat
 |0=>L.length
 |r+1=>(L.getD r []).length
theorem RH.VN(hh:RH m H Hv){c:CT}{L:List (List (Gb c))}{rows:List (List V.AV)}{ty:Option (TypeId×Nat)}{F:Nat->Option Nat}(wG:rows.length=L.length)
  (hF:∀r x,F r=some x->(∃b s,m.ι b s=some x)/\Hv.wm<=x/\∀b s,live H b->m.ι b s≠some x) (hFi:∀r r' x,F r=some x->F r'=some x->r=r') (hFo:∀r,L.length<=r->F r=none)
  (sd:∀r,r<L.length->∃a,rows[r]?=some [a]/\Il m Hv (F r) c (L.getD r []) a):
  ∃m',RH m' (U.push H (.deep c L)) (V.push Hv (.cells rows 1 ty))/\RV m' (.all H.bl.length) (.sl Hv.bl.length 0 L.length)/\m.Le m'/\Oj m.top m Hv m' (V.push Hv (.cells rows 1 ty)):=by
 have Ac:∀r x,F r=some x->x<Hv.bl.length:=fun r x h=>by
  obtain⟨b,s,h1⟩:=(hF r x h).1;exact(hh.Ie b x h1).2
 have h1:=hh.L7 (Nc:=V.push Hv (.cells rows 1 ty)) (y:= .deep c L) (f:=DF Hv.bl.length F) (g:=j_ L) (fun b s x' hl hb=>by rw[Ke,if_pos (hh.Ie b x' hb).2]) (by simp[V.push]) rfl
  (fun s xv e=>by
   cases s with
   |zero=>
    simp[DF]at e;subst e;exact⟨by simp[V.push],hh.top,fun b s _ hb=>by have:=(hh.Ie b _ hb).2;omega⟩
   |succ r=>
    have e:F r=some xv:=e;exact⟨by have:=Ac r xv e;simp[V.push];omega,(hF r xv e).2.1,(hF r xv e).2.2⟩)
  (fun s s' xv e e'=>by
   cases s with
   |zero=>
    cases s' with
    |zero=>rfl
    |succ r'=>
     have e':F r'=some xv:=e';have:=Ac r' xv e';simp[DF]at e;omega
   |succ r=>
    have e:F r=some xv:=e;cases s' with
    |zero=>have:=Ac r xv e;simp[DF]at e';omega
    |succ r'=>
     have e':F r'=some xv:=e';rw[hFi r r' xv e e'])
  (by
   refine⟨by rw[Xq];rfl,fun r=>⟨by rw[Xq];rfl,fun hr=>by rw[gh];exact hFo r hr⟩,.inr ⟨Hv.bl.length,rows,ty,by rw[gh];rfl,by rw[Ke,if_neg (by omega),if_pos rfl],by omega,fun r hr=> ?_⟩⟩;obtain⟨a,k1,k2⟩:=sd r hr;refine⟨a,k1,?_⟩;rw[gh];exact k2.keep (fun x y hc h=>h.free _ 8 hc) fun x hx=>by rw[Ke,if_pos (Ac r x hx)])
 refine⟨_,h1.1,?_,h1.2,⟨IK hh _ _,fun x hx _=>by rw[Ke,if_pos hx],fun b s x hb=>G1 (fun s x e=> ?_) b x hb,by simp[V.push],rfl⟩⟩
 ·have:=RV.all (m:=m.Ni H.bl.length (DF Hv.bl.length F) (j_ L)) H.bl.length Hv.bl.length (by rw[gh];rfl);rw[Xq]at this;exact this
 ·cases s with
  |zero=>simp[DF]at e;subst e;exact .inr (va _)
  |succ r=>exact .inl (hF r x e).1
end
end Go.U
namespace Go.U
open Go
variable [TB:GC]
section
variable {A:V.yh}{Pa:Nat->Option (List UV)}{m:Mp}{φ:Nat->Option Nat}{s:St}{sv:V.S}{X:Type}{out:X}
theorem Sj.row{z n:Nat}{f:Nat->List UV}{rows:List (List V.AV)}(h:Sj m z n f rows)(hn:n<=rows.length){i:Nat}(hi:i<n):∃row,rows[i]?=some row/\RL m (f i) row/\row.length=z:=by
 have hr:=Ba (l:=rows) (i:=i) (by omega);have hz:=h.2.1 i _ hi hr;exact⟨_,hr,⟨by rw[hz,(h.1 i hi).1],fun c x a h1 h2=>h.2.2 i _ c x a hi hr h1 h2⟩,hz⟩
theorem Cc(h:RH m s.H sv.H){b:Nat}{c:CT}{l:List (Gb c)}(hb:s.H.bl[b]?=some (.cells c l)):m.len b 0=l.length/\∀x,m.ι b 0=some x->∃rows ty,sv.H.bl[x]?=some (.cells rows (width c) ty)/\l.length<=rows.length/\Sj m (width c) l.length (vw c l) rows:=by
 obtain⟨h1,h2⟩:=h.Vc b _ hb;refine⟨h1,fun x hx=> ?_⟩;rcases h2 with⟨_,h3⟩|⟨x',rows,ty,h3,h4,h5,h6⟩
 ·rw[hx]at h3;simp at h3
 ·rw[hx]at h3;simp at h3;subst h3;exact⟨rows,ty,h4,h5,h6⟩
theorem Wd(h:RH m s.H sv.H){b:Nat}{c:CT}{l:List (List (Gb c))}(hb:s.H.bl[b]?=some (.deep c l)):m.len b 0=l.length/\(∀r,m.len b (r+1)=(l.getD r []).length)/\∀x,m.ι b 0=some x->∃rows ty,sv.H.bl[x]?=some (.cells rows 1 ty)/\l.length<=rows.length/\
  ∀r,r<l.length->∃a,rows[r]?=some [a]/\Il m sv.H (m.ι b (r+1)) c (l.getD r []) a:=by
 obtain⟨h1,h0,h2⟩:=h.Vc b _ hb;refine⟨h1,fun r=>(h0 r).1,fun x hx=> ?_⟩;rcases h2 with⟨_,h3⟩|⟨x',rows,ty,h3,h4,h5,h6⟩
 ·rw[hx]at h3;simp at h3
 ·rw[hx]at h3;simp at h3;subst h3;exact⟨rows,ty,h4,h5,h6⟩
theorem Bw(h:RH m s.H sv.H){b r y:Nat}{c:CT}{l:List (List (Gb c))}(hb:s.H.bl[b]?=some (.deep c l))(hy:m.ι b (r+1)=some y):r<l.length/\∃rows ty,sv.H.bl[y]?=some (.cells rows (width c) ty)/\(l.getD r []).length<=rows.length/\Sj m (width c) (l.getD r []).length (vw c (l.getD r [])) rows:=by
 obtain⟨h1,h0,h2⟩:=h.Vc b _ hb;have hr:r<l.length:=by
  rcases Vb r l.length with h|h
  ·exact h
  ·rw[(h0 r).2 h]at hy;simp at hy
 refine⟨hr,?_⟩;rcases h2 with⟨h3,_⟩|⟨x',rows,ty,h3,h4,h5,h6⟩
 ·omega
 ·obtain⟨a,k1,k2⟩:=h6 r hr;rcases k2 with⟨_,k3,_⟩|⟨y',Yd,G7,k3,k4,k5,k6,k7⟩
  ·rw[hy]at k3;simp at k3
  ·rw[hy]at k3;simp at k3;subst k3;exact⟨Yd,G7,k5,k6,k7⟩
theorem JU{c:CT}{l:List (Gb c)}{r:Nat}{x:Gb c}{i:Nat}(hr:r<l.length):vw c (l.set r x) i=if i=r then enc c x else vw c l i:=by
 simp only[vw,Ia,Ob];split
 ·rename_i e;subst e;simp[hr]
 ·rename_i e;rw[if_neg (fun e'=>e e'.symm)]
theorem yE(h:RH m s.H sv.H){b x:Nat}{row:List UV}(hb:s.H.bl[b]?=some (.Ya row))(hx:m.ι b 0=some x):∃Lb ty,sv.H.bl[x]?=some (.cells [Lb] Lb.length ty)/\RL m row Lb:=by
 obtain⟨x',Lb,ty,h1,h2,h3⟩:=h.Vc b _ hb;rw[hx]at h1;simp at h1;subst h1;exact⟨Lb,ty,h2,h3⟩
theorem jv{t:TypeId}{p:US}{pv:V.SV}{x:UV}(h:load A s t p=some x)(hh:RH m s.H sv.H)(hf:RF m φ s.F sv.F)(hp:RS m φ p pv):∃a,V.load A sv t pv=some a/\RV m x a:=by
 unfold load at h;split at h
 ·rename_i i c;cases pv with
  |v a=>exact hp.elim
  |loc j c'=>
   obtain⟨h1,rfl⟩:=hp;simp only[aa]at h;obtain⟨row,hr,h⟩:=h;obtain⟨j',Lb,k1,k2,k3⟩:=hf.row i row hr;rw[h1]at k1;simp at k1;subst k1;obtain⟨a,k4,k5⟩:=pg h k3;exact⟨a,by simp[V.load,k2,k4],k5⟩
 ·rename_i b c;obtain⟨a,rfl,hv⟩:=hp.val (by simp);cases hv with
  |ptr _ _ x hx=>
   split at h
   ·rename_i row hb;obtain⟨Lb,ty,k1,k2⟩:=yE hh hb hx;obtain⟨a,k4,k5⟩:=pg h k2;exact⟨a,by simp[V.load,V.rowAt,k1,k4],k5⟩
   ·simp at h
 ·rename_i b r c;obtain⟨a,rfl,hv⟩:=hp.val (by simp);cases hv with
  |Dm _ _ _ x hx hr=>
   split at h
   ·rename_i ct l hb;obtain⟨k0,k1⟩:=Cc hh hb;obtain⟨rows,ty,k2,k3,k4⟩:=k1 x hx;obtain⟨row,k5,k6,_⟩:=k4.row k3 (i:=r) (by rw[<- k0];exact hr);obtain⟨a,k7,k8⟩:=pg h k6;exact⟨a,by simp[V.load,V.rowAt,k2,k5,k7],k8⟩
   ·rename_i ct l hb;obtain⟨k0,k1,k2⟩:=Wd hh hb;obtain⟨rows,ty,k3,k4,k5⟩:=k2 x hx;have wG:r<l.length:=by rw[<- k0];exact hr
    obtain⟨a0,k6,k7⟩:=k5 r wG;have hd:RV m (.xp b r) a0:=by
     rcases k7 with⟨j1,j2,j3⟩|⟨y,Yd,G7,j1,rfl,_⟩
     ·exact .vu b r a0 (by rw[hh.len];exact Za hb) (by rw[k1 r];exact j1) j3
     ·rw[<- k1 r];exact .xp b r y j1
    obtain⟨a,k8,k9⟩:=pg h (RL.cons hd RL.nil);exact⟨a,by simp[V.load,V.rowAt,k3,k6,k8],k9⟩
   ·simp at h
 ·rename_i b r j c;obtain⟨a,rfl,hv⟩:=hp.val (by simp);cases hv with
  |Hp _ _ _ _ x hx hj=>
   split at h
   ·rename_i ct l hb;obtain⟨k0,k1,_⟩:=Wd hh hb;obtain⟨wG,rows,ty,k2,k3,k4⟩:=Bw hh hb hx;obtain⟨row,k5,k6,_⟩:=k4.row k3 (i:=j) (by rw[<- k1 r];exact hj);obtain⟨a,k7,k8⟩:=pg h k6;exact⟨a,by simp[V.load,V.rowAt,k2,k5,k7],k8⟩
   ·simp at h
 ·rename_i row;obtain⟨a,rfl,hv⟩:=hp.val (by simp);cases hv with
  |Ed _ Lb hl hc hr=>
   obtain⟨a,k1,k2⟩:=pg h ⟨hl,hr⟩;exact⟨a,by simp[V.load,k1],k2⟩
 ·simp at h
theorem RF.set{F:List (List UV)}{Fv:List (List V.AV)}(h:RF m φ F Fv){i j:Nat}{row:List UV}{Lb:List V.AV}(PC:φ i=some j)(hr:RL m row Lb):RF m φ (F.set i row) (Fv.set j Lb):=by
 refine⟨fun a b hab=>by simpa using h.Ie a b hab,fun a r ha=> ?_,h.inj⟩;rw[Ob]at ha;split at ha
 ·rename_i e;subst e;split at ha
  ·simp at ha;subst ha;refine⟨j,Lb,PC,?_,hr⟩;rw[Ob,if_pos rfl,if_pos (h.Ie _ _ PC).2]
  ·simp at ha
 ·rename_i e;obtain⟨b,r',k1,k2,k3⟩:=h.row a r ha;refine⟨b,r',k1,?_,k3⟩;rw[Ob,if_neg]
  ·exact k2
  ·rintro rfl;exact e (h.inj i a _ PC k1)
theorem RF.mono{m':Mp}{F:List (List UV)}{Fv:List (List V.AV)}(h:RF m φ F Fv)(hle:m.Le m'):RF m' φ F Fv:=
 ⟨h.Ie,fun i row hi=>let⟨j,Lb,h1,h2,h3⟩:=h.row i row hi;⟨j,Lb,h1,h2,h3.mono hle⟩,h.inj⟩
theorem SQ{t:TypeId}{p:US}{pv:V.SV}{y:UV}{a:V.AV}{s':St}(h:store A s t p y=some s')(hh:RH m s.H sv.H)(hf:RF m φ s.F sv.F)(hp:RS m φ p pv)(hy:RV m y a):
  ∃xe,V.store A sv t pv a=some xe/\RH m s'.H xe.H/\RF m φ s'.F xe.F/\Oj m.top m sv.H m xe.H/\s'.e=s.e/\xe.e=sv.e/\s'.base=s.base:=by
 simp only[store,aF,aa]at h;obtain⟨cs,aj,n,hn,h⟩:=h;split at h
 case isFalse=>simp at h
 rename_i hlen;obtain⟨Jh,q1,q2⟩:=Qs aj hy;unfold V.store;simp only[q1,hn,ga];rw[if_pos (by rw[q2.1];exact hlen)];split at h
 ·rename_i i c;cases pv with
  |v a=>exact hp.elim
  |loc j c'=>
   obtain⟨h1,rfl⟩:=hp;simp only[aa]at h;obtain⟨row,hr,Cf,zf,h⟩:=h;simp at h;subst h;obtain⟨j',Lb,k1,k2,k3⟩:=hf.row i row hr;rw[h1]at k1;simp at k1;subst k1;obtain⟨Kg,k4,k5,_⟩:=Jk zf k3 q2;exact⟨{ sv with F:=sv.F.set j Kg },by simp[k2,k4],hh,hf.set h1 k5,.refl _ (va _),rfl,rfl,rfl⟩
 ·rename_i b c;obtain⟨a',rfl,hv⟩:=hp.val (by simp);cases hv with
  |ptr _ _ x hx=>
   split at h
   case h_2=>simp at h
   rename_i row hb;split at h
   case isFalse=>simp at h
   rename_i ag;simp only[aa]at h;obtain⟨Cf,zf,h⟩:=h;simp at h;subst h;obtain⟨Lb,ty,k1,k2⟩:=yE hh hb hx;obtain⟨Kg,k4,k5,k6⟩:=Jk zf k2 q2;have hl:live s.H b:=⟨_,hb,rfl⟩;have hw:=hh.wm b x hx ag;have uO:Kg.length=Lb.length:=by rw[k5.1,k6,k2.1]
   have Fh:=hh.set (y:= .Ya Cf) (yv:= .cells [Kg] Kg.length ty) hl hx ⟨x,Kg,ty,hx,by rw[Ec,if_pos rfl,if_pos (hh.Ie b x hx).2],k5⟩;refine⟨{ sv with H:=V.Ra sv.H x (.cells [Kg] Kg.length ty) },?_,Fh.1,hf,Fh.2,rfl,rfl,rfl⟩;simp[k1,hw,k4,uO]
 ·rename_i b r c;obtain⟨a',rfl,hv⟩:=hp.val (by simp);cases hv with
  |Dm _ _ _ x hx wG=>
   split at h
   case h_2=>simp at h
   rename_i ct l hb;split at h
   case isFalse=>simp at h
   rename_i ag;simp only[aa]at h;obtain⟨Cf,zf,xr,Oaa,h⟩:=h;simp at h;subst h;obtain⟨k0,k1⟩:=Cc hh hb;obtain⟨rows,ty,k2,k3,k4⟩:=k1 x hx;have hrn:r<l.length:=by rw[<- k0];exact wG
   have Tk:r<rows.length:=by omega
   obtain⟨Lb,k5,k6,k7⟩:=k4.row k3 hrn;obtain⟨Kg,k8,k9,k10⟩:=Jk zf k6 q2;have k9':=Gn Oaa k9;have hl:live s.H b:=⟨_,hb,rfl⟩;have hw:=hh.wm b x hx ag;have Fh:=hh.set (y:= .cells ct (l.set r xr)) (yv:= .cells (rows.set r Kg) (width ct) ty) hl hx (by
    refine⟨by rw[qe];exact k0,.inr ⟨x,rows.set r Kg,ty,hx,by rw[Ec,if_pos rfl,if_pos (hh.Ie b x hx).2],by simpa using k3,fun i hi=>⟨Ef _ _ _,Xd _ _ _⟩,fun i row zG hi=> ?_,fun i row c' y' a' zG hi h1 h2=> ?_⟩⟩
    ·rw[qe]at zG;rw[Ob]at hi;split at hi
     ·simp[Tk]at hi;subst hi;rw[k9'.1,Ih]
     ·exact k4.2.1 i row zG hi
    ·rw[qe]at zG;rw[Ob]at hi;rw[JU hrn]at h1;split at hi
     ·rename_i e;subst e;rw[if_pos rfl]at h1;simp[Tk]at hi;subst hi;exact k9'.2 c' y' a' h1 h2
     ·rename_i e;rw[if_neg (fun e'=>e e'.symm)]at h1;exact k4.2.2 i row c' y' a' zG hi h1 h2)
   refine⟨{ sv with H:=V.Ra sv.H x (.cells (rows.set r Kg) (width ct) ty) },?_,Fh.1,hf,Fh.2,rfl,rfl,rfl⟩;simp[k2,hw,k5,k8]
 ·rename_i b r j c;obtain⟨a',rfl,hv⟩:=hp.val (by simp);cases hv with
  |Hp _ _ _ _ x hx hjl=>
   split at h
   case h_2=>simp at h
   rename_i ct l hb;split at h
   case isFalse=>simp at h
   rename_i ag;simp only[aa]at h;obtain⟨Cf,zf,xr,Oaa,h⟩:=h;simp at h;subst h;obtain⟨k0,k1,kx⟩:=Wd hh hb;obtain⟨wG,rows,ty,k2,k3,k4⟩:=Bw hh hb hx;have It:j<(l.getD r []).length:=by rw[<- k1 r];exact hjl
   have hjr:j<rows.length:=by omega
   obtain⟨Lb,k5,k6,k7⟩:=k4.row k3 It;obtain⟨Kg,k8,k9,k10⟩:=Jk zf k6 q2;have k9':=Gn Oaa k9;have hl:live s.H b:=⟨_,hb,rfl⟩;have hw:=hh.wm b x hx ag;have hgd:∀i,(l.set r ((l.getD r []).set j xr)).getD i []=if i=r then(l.getD r []).set j xr else l.getD i []:=fun i=>by
    simp only[Ia,Ob];by_cases e:r=i
    ·subst e;simp[wG]
    ·rw[if_neg e,if_neg (fun e'=>e e'.symm)]
   have Fh:=hh.Gae (y:= .deep ct (l.set r ((l.getD r []).set j xr))) (yv:= .cells (rows.set j Kg) (width ct) ty) hl hx (by
    obtain⟨b1,b0,b2⟩:=hh.Vc b _ hb;refine⟨by rw[qe];exact b1,fun i=>⟨?_,by rw[qe];exact(b0 i).2⟩,?_⟩
    ·rw[hgd];split
     ·rename_i e;subst e;rw[qe];exact(b0 i).1
     ·exact(b0 i).1
    rcases b2 with⟨b3,_⟩|⟨x',rws,G7,b3,b4,b5,b6⟩
    ·omega
    have hxx:x≠x':=fun e=>by subst e;have:=(hh.pn b b x hl hl hx b3).2;omega
    refine .inr ⟨x',rws,G7,b3,by rw[Ec,if_neg hxx];exact b4,by rw[qe];exact b5,fun i hi=> ?_⟩;rw[qe]at hi;obtain⟨a,c1,c2⟩:=b6 i hi;refine⟨a,c1,?_⟩;rw[hgd];split
    ·rename_i e;subst e;rcases c2 with⟨c3,_⟩|⟨y,rw0,LC,c3,c4,c5,c6,c7⟩
     ·omega
     rw[hx]at c3;simp at c3;subst c3;rw[k2]at c5;simp at c5;obtain⟨rfl,rfl⟩:=c5;refine .inr ⟨x,rows.set j Kg,ty,hx,by rw[qe];exact c4,by rw[Ec,if_pos rfl,if_pos (hh.Ie b x hx).2],by simpa using c6,fun i hi=>⟨Ef _ _ _,Xd _ _ _⟩,fun i row zG hi=> ?_,fun i row c' y' a' zG hi h1 h2=> ?_⟩
     ·rw[qe]at zG;rw[Ob]at hi;split at hi
      ·simp[hjr]at hi;subst hi;rw[k9'.1,Ih]
      ·exact c7.2.1 i row zG hi
     ·rw[qe]at zG;rw[Ob]at hi;rw[JU It]at h1;split at hi
      ·rename_i e;subst e;rw[if_pos rfl]at h1;simp[hjr]at hi;subst hi;exact k9'.2 c' y' a' h1 h2
      ·rename_i e;rw[if_neg (fun e'=>e e'.symm)]at h1;exact c7.2.2 i row c' y' a' zG hi h1 h2
    ·rename_i e;rcases c2 with⟨c3,c4,c5⟩|⟨y,rw0,LC,c3,c4,c5,c6,c7⟩
     ·exact .inl ⟨c3,c4,c5⟩
     ·have hxy:x≠y:=fun e'=>by subst e';have:=(hh.pn b b x hl hl hx c3).2;omega
      exact .inr ⟨y,rw0,LC,c3,c4,by rw[Ec,if_neg hxy];exact c5,c6,c7⟩)
   refine⟨{ sv with H:=V.Ra sv.H x (.cells (rows.set j Kg) (width ct) ty) },?_,Fh.1,hf,Fh.2,rfl,rfl,rfl⟩;simp[k2,hw,k5,k8]
 ·simp at h
theorem qz{p p':US}{pv:V.SV}{n:Nat}(h:Ng n p=some p')(hp:RS m φ p pv):∃pv',V.Ng n pv=some pv'/\RS m φ p' pv':=by
 unfold Ng at h;split at h
 ·rename_i i c;simp at h;subst h;cases pv with
  |v a=>exact hp.elim
  |loc j c'=>obtain⟨h1,rfl⟩:=hp;exact⟨_,rfl,h1,rfl⟩
 ·rename_i b c;simp at h;subst h;obtain⟨a,rfl,hv⟩:=hp.val (by simp);cases hv with
  |ptr _ _ x hx=>exact⟨_,rfl,RV.ptr b (c+n) x hx⟩
 ·rename_i b r c;simp at h;subst h;obtain⟨a,rfl,hv⟩:=hp.val (by simp);cases hv with
  |Dm _ _ _ x hx hr=>exact⟨_,rfl,RV.Dm b r (c+n) x hx hr⟩
 ·rename_i b r j c;simp at h;subst h;obtain⟨a,rfl,hv⟩:=hp.val (by simp);cases hv with
  |Hp _ _ _ _ x hx hr=>exact⟨_,rfl,RV.Hp b r j (c+n) x hx hr⟩
 ·rename_i row;simp at h;subst h;obtain⟨a,rfl,hv⟩:=hp.val (by simp);cases hv with
  |Ed _ Lb hl hc hr=>
   have:=RL.drop (m:=m) ⟨hl,hr⟩ n;exact⟨_,rfl,RV.Ed _ _ this.1 (fun x hx=>hc x (List.mem_of_mem_drop hx)) this.2⟩
 ·simp at h
theorem Au{i:Int}{K:Nat->Option X}:∀(n j:Nat),cases i K n j=some out->∃k,j<=k/\k<j+n/\i=(k:Int)/\K k=some out
 |0,j,h=>by simp[cases]at h
 |n+1,j,h=>by
  simp only[cases]at h;by_cases hc:i=(j:Int)
  ·simp[hc]at h;exact⟨j,va _,by omega,hc,h⟩
  ·simp[hc]at h;obtain⟨k,h1,h2,h3,h4⟩:=Au n (j+1) h;exact⟨k,by omega,by omega,h3,h4⟩
theorem Cd{b:Bool}{x:Option X}(h:ask b x=some out):b=true/\x=some out:=by
 unfold ask at h;cases b<;>simp_all
theorem CA(r k:Nat):kU r k=r+k:=by unfold kU;split<;>simp
theorem eD{t:TypeId}{p:US}{i:Int}{K:US->Option X}(h:indexAddr A s.H t p i K=some out):
  ∃v,K v=some out/\∀(m:Mp)(φ:Nat->Option Nat)(sv:V.S)(pv:V.SV),RH m s.H sv.H->RS m φ p pv->∃vv,V.indexAddr A sv.H t pv i=some vv/\RS m φ v vv:=by
 unfold indexAddr at h;split at h
 ·rename_i n e hu;simp only[aa]at h;obtain⟨sz,ue,h⟩:=h;obtain⟨k,_,hk,rfl,hc⟩:=Au n 0 h;obtain⟨v,hv,h⟩:=aa.1 hc;refine⟨v,h,fun m φ sv pv hh hp=> ?_⟩;obtain⟨vv,h1,h2⟩:=qz hv hp;refine⟨vv,?_,h2⟩;have hr:V.ja (k:Int) n=true:=by simp[V.ja];omega
  simp[V.indexAddr,hu,hr,ue,h1]
 ·rename_i e hu;split at h
  ·rename_i b r n;split at h
   case h_3=>simp at h
   case h_2=>
    rename_i ct l hb;split at h
    case isFalse=>simp at h
    rename_i hz;obtain⟨h0,h⟩:=Cd h;refine⟨_,h,fun m φ sv pv hh hp=> ?_⟩;obtain⟨a,rfl,hv⟩:=hp.val (by simp);have G8:0<=i/\i<(n:Int):=by simpa[V.ja]using h0
    have Ac:i.toNat<n:=by omega
    cases hv with
    |sl _ _ _ x hx hle=>
     obtain⟨k0,k1,k2⟩:=Wd hh hb;obtain⟨rows,ty,k3,k4,k5⟩:=k2 x hx;refine⟨.v (.ptr x (r+i.toNat) 0),?_,?_⟩
     ·simp[V.indexAddr,hu,h0,V.Jj,k3,hz]
     ·rw[CA];exact RV.Dm b _ 0 x hx (by omega)
    |Bt _ _ a ha=>omega
   rename_i ct l hb;split at h
   case isFalse=>simp at h
   rename_i hz;obtain⟨h0,h⟩:=Cd h;refine⟨_,h,fun m φ sv pv hh hp=> ?_⟩;obtain⟨a,rfl,hv⟩:=hp.val (by simp);have G8:0<=i/\i<(n:Int):=by simpa[V.ja]using h0
   have Ac:i.toNat<n:=by omega
   cases hv with
   |sl _ _ _ x hx hle=>
    obtain⟨k0,k1⟩:=Cc hh hb;obtain⟨rows,ty,k2,k3,k4⟩:=k1 x hx;refine⟨.v (.ptr x (r+i.toNat) 0),?_,?_⟩
    ·simp[V.indexAddr,hu,h0,V.Jj,k2,hz]
    ·rw[CA];exact RV.Dm b _ 0 x hx (by omega)
   |Bt _ _ a ha=>omega
  ·rename_i b;split at h
   case h_3=>simp at h
   case h_2=>
    rename_i ct l hb;split at h
    case isFalse=>simp at h
    rename_i hz;obtain⟨h0,h⟩:=Cd h;refine⟨_,h,fun m φ sv pv hh hp=> ?_⟩;obtain⟨a,rfl,hv⟩:=hp.val (by simp);have G8:0<=i/\i<(l.length:Int):=by simpa[V.ja]using h0
    have Ac:i.toNat<l.length:=by omega
    obtain⟨k0,k1,k2⟩:=Wd hh hb;cases hv with
    |all _ x hx=>
     obtain⟨rows,ty,k3,k4,k5⟩:=k2 x hx;refine⟨.v (.ptr x (0+i.toNat) 0),?_,?_⟩
     ·simp[V.indexAddr,hu,k0,h0,V.Jj,k3,hz]
     ·rw[Re];exact RV.Dm b _ 0 x hx (by omega)
    |Yf _ a _ hl ha=>omega
   rename_i ct l hb;split at h
   case isFalse=>simp at h
   rename_i hz;obtain⟨h0,h⟩:=Cd h;refine⟨_,h,fun m φ sv pv hh hp=> ?_⟩;obtain⟨a,rfl,hv⟩:=hp.val (by simp);have G8:0<=i/\i<(l.length:Int):=by simpa[V.ja]using h0
   have Ac:i.toNat<l.length:=by omega
   obtain⟨k0,k1⟩:=Cc hh hb;cases hv with
   |all _ x hx=>
    obtain⟨rows,ty,k2,k3,k4⟩:=k1 x hx;refine⟨.v (.ptr x (0+i.toNat) 0),?_,?_⟩
    ·simp[V.indexAddr,hu,k0,h0,V.Jj,k2,hz]
    ·rw[Re];exact RV.Dm b _ 0 x hx (by omega)
   |Yf _ a _ hl ha=>omega
  ·rename_i b r;split at h
   case h_2=>simp at h
   rename_i ct l hb;split at h
   case isFalse=>simp at h
   rename_i hz;obtain⟨h0,h⟩:=Cd h;refine⟨_,h,fun m φ sv pv hh hp=> ?_⟩;obtain⟨a,rfl,hv⟩:=hp.val (by simp);have G8:0<=i/\i<((l.getD r []).length:Int):=by simpa only[V.ja,Va,decide_eq_true_eq]using h0
   have Ac:i.toNat<(l.getD r []).length:=by omega
   obtain⟨k0,k1,_⟩:=Wd hh hb;cases hv with
   |xp _ _ x hx=>
    obtain⟨wG,rows,ty,k2,k3,k4⟩:=Bw hh hb hx;refine⟨.v (.ptr x (0+i.toNat) 0),?_,?_⟩
    ·have cal:V.ja i (m.len b (r+1))=true:=by rw[k1 r];exact h0
     simp[V.indexAddr,hu,cal,V.Jj,k2,hz]
    ·rw[Re];exact RV.Hp b r _ 0 x hx (by rw[k1 r];exact Ac)
   |vu _ _ a _ hl ha=>rw[k1 r]at hl;omega
  ·rename_i ct l;split at h
   case isFalse=>simp at h
   rename_i hz;obtain⟨h0,h⟩:=Cd h;refine⟨_,h,fun m φ sv pv hh hp=> ?_⟩;obtain⟨a,rfl,hv⟩:=hp.val (by simp);have G8:0<=i/\i<(l.length:Int):=by simpa[V.ja]using h0
   have Ac:i.toNat<l.length:=by omega
   cases hv with
   |lit _ _ rows h1 h2 h3=>
    have Tk:Sj m (width ct) rows.length (vw ct l) rows:=⟨fun i _=>⟨Ef _ _ _,Xd _ _ _⟩,fun i row _=>h2 i row,fun i row c x a _=>h3 i row c x a⟩;obtain⟨row,k5,k6,k7⟩:=Tk.row (va _) (i:=i.toNat) (by omega);refine⟨.v (.Ed row),?_,?_⟩
    ·simp[V.indexAddr,hu,h1,h0,hz,k5]
    ·exact RV.Ed _ _ k6.1 (Xd _ _ _) k6.2
   |di _ a ha=>simp at Ac
  ·simp at h
 ·simp at h
theorem AR{t:TypeId}{x:UV}{i:Int}{K:UV->Option X}(h:index A t x i K=some out):
  ∃v,K v=some out/\∀(m:Mp)(a:V.AV),RV m x a->∃b,V.index A t a i=some b/\RV m v b:=by
 unfold index at h;split at h
 ·rename_i n e cs hu;simp only[aa]at h;obtain⟨sz,ue,h⟩:=h;obtain⟨k,_,hk,rfl,hc⟩:=Au n 0 h;obtain⟨v,hv,h⟩:=aa.1 hc;refine⟨v,h,fun m a ha=> ?_⟩;cases ha with
  |agg _ as hl hr=>
   obtain⟨b,h1,h2⟩:=pg hv ⟨hl,hr⟩;have Ql:V.ja (k:Int) n=true:=by simp[V.ja];omega
   exact⟨b,by simp[V.index,hu,Ql,ue,h1],h2⟩
 ·rename_i str hu;obtain⟨h0,h⟩:=Cd h;refine⟨_,h,fun m a ha=> ?_⟩;cases ha with
  |str=>exact⟨_,by simp[V.index,hu,h0],.int _ _⟩
 ·simp at h
theorem RP.cons{i:Nat}{x:UV}{ps:List (Nat×UV)}{qs:List (Nat×V.AV)}(h:RP m ((i,x)::ps) qs):∃a K7,qs=(i,a)::K7/\RV m x a/\RP m ps K7:=by
 obtain⟨h1,h2⟩:=h;cases qs with
 |nil=>simp at h1
 |cons q qs=>
  obtain⟨j,a⟩:=q;simp at h1;obtain⟨rfl,h1⟩:=h1;refine⟨a,qs,rfl,h2.2 0 x a rfl rfl,h1,⟨by have:=h2.1;simpa using this,fun k y b k1 k2=>h2.2 (k+1) y b (by simpa using k1) (by simpa using k2)⟩⟩
theorem tq{place:Nat->Option (Nat×Nat)}:∀{ps:List (Nat×UV)}{qs:List (Nat×V.AV)}{row Cf:List UV}{Lb:List V.AV},jg place row ps=some Cf->RL m row Lb->RP m ps qs->∃Kg,V.jg place Lb qs=some Kg/\RL m Cf Kg
 |[],qs,row,Cf,Lb,h,hr,hp=>by
  simp[jg]at h;subst h;have:qs=[]:=by have:=hp.1;simpa using this
  subst this;exact⟨Lb,rfl,hr⟩
 |(i,x)::ps,qs,row,Cf,Lb,h,hr,hp=>by
  obtain⟨a,K7,rfl,hx,QL⟩:=hp.cons;simp only[jg,aa]at h;obtain⟨⟨off,n⟩,kD,cs,aj,h⟩:=h;split at h
  case isFalse=>simp at h
  rename_i hlen;simp only[aa]at h;obtain⟨Mk,zf,h⟩:=h;obtain⟨Jh,q1,q2⟩:=Qs aj hx;obtain⟨Oal,k1,k2,_⟩:=Jk zf hr q2;obtain⟨Kg,k3,k4⟩:=tq h k2 QL;refine⟨Kg,?_,k4⟩;simp only[V.jg,kD,q1,ga];rw[if_pos (by rw[q2.1];exact hlen),k1];exact k3
theorem hU{t:TypeId}{ps:List (Nat×UV)}{qs:List (Nat×V.AV)}{v:UV}(h:build A t ps=some v)(hp:RP m ps qs):∃a,V.build A t qs=some a/\RV m v a:=by
 simp only[build,aa]at h;obtain⟨z,hz,h⟩:=h;obtain⟨z',q1,q2,_⟩:=Np hz;unfold V.build;simp only[q1,ga];split at h
 ·rename_i fs hu;split at h
  case isFalse=>simp at h
  rename_i Hg;simp only[ia]at h;obtain⟨row,sd,rfl⟩:=h;obtain⟨Lb,k1,k2⟩:=tq sd (q2 m) hp;exact⟨.agg Lb,by rw[hu];simp only[Hg,if_true,k1,Oc],.agg _ _ k2.1 k2.2⟩
 ·rename_i n e hu;simp only[aa,ia]at h;obtain⟨sz,ue,row,sd,rfl⟩:=h;obtain⟨Lb,k1,k2⟩:=tq sd (q2 m) hp;exact⟨.agg Lb,by rw[hu];simp only[ue,ga,k1,Oc],.agg _ _ k2.1 k2.2⟩
 ·simp at h
end
end Go.U
namespace Go.U
open Go
variable [TB:GC]
def Rn(Hv:V.AH):V.AV->Option (List (List V.AV))
 | .str s=>some (V.uc s)
 |y=>V.rowsOf Hv y
def Bu(Hv:V.AH)(x':V.AV)(xs ys:List (List V.AV))(zl:Nat)(te:TypeId):Option (V.AV×V.AH):=
 match x' with
 | .Xa| .Ud=>some (.sl Hv.bl.length 0 ys.length,V.push Hv (.cells ys zl (some (te,1))))
 | .sl b r _=>if Hv.wm<=b/\V.Jj Hv b=some zl then some (.sl Hv.bl.length 0 (xs.length+ys.length),V.push (V.Ra Hv b .dead) (.cells (xs++ys) zl (V.vz (V.TF Hv b) te r)))else none
 |_=>none
def Jp(m:Mp)(Hv:V.AH)(v:UV)(H':UH)(a:V.AV)(Nc:V.AH):Prop:=∃m',RH m' H' Nc/\RV m' v a/\m.Le m'/\Oj m.top m Hv m' Nc
section
variable {A:V.yh}{Pa:Nat->Option (List UV)}{m:Mp}{φ:Nat->Option Nat}{H H':UH}{Hv:V.AH}{X:Type}{out:X}
theorem Jp.same{v:UV}{a:V.AV}(hh:RH m H Hv)(hv:RV m v a):Jp m Hv v H a Hv:=⟨m,hh,hv,.refl m,.refl Hv (va _)⟩
def RT(m:Mp)(c:CT)(l:List (Gb c))(rows:List (List V.AV)):Prop:=rows.length=l.length/\Sj m (width c) l.length (vw c l) rows
theorem RT.lit{c:CT}{l:List (Gb c)}{rows:List (List V.AV)}(h:RT m c l rows):RV m (.lit c l) (.lit (width c) rows):=
 .lit c l rows h.1 (fun i row hi=>h.2.2.1 i row (by rw[<- h.1];exact Za hi) hi) fun i row k x a h1 h2 h3=>h.2.2.2 i row k x a (by rw[<- h.1];exact Za h1) h1 h2 h3
theorem RT.of{c:CT}{l:List (Gb c)}{rows:List (List V.AV)}(hl:rows.length=l.length)(h:∀(i:Nat)(row:List V.AV),i<l.length->rows[i]?=some row->RL m (vw c l i) row):RT m c l rows:=
 ⟨hl,fun i _=>⟨Ef _ _ _,Xd _ _ _⟩,fun i row hi hr=>by rw[(h i row hi hr).1,Ef],fun i row k x a hi hr h1 h2=>(h i row hi hr).2 k x a h1 h2⟩
theorem RT.get{c:CT}{l:List (Gb c)}{rows:List (List V.AV)}(h:RT m c l rows){i:Nat}{row:List V.AV}(hr:rows[i]?=some row):RL m (vw c l i) row:=by
 have hi:i<l.length:=by rw[<- h.1];exact Za hr
 obtain⟨Lb,j1,j2,j3⟩:=h.2.row (Kh h.1.symm) hi;rw[hr]at j1;simp at j1;subst j1;exact j2
theorem Sj.mono{m':Mp}{z n:Nat}{f:Nat->List UV}{rows:List (List V.AV)}(h:Sj m z n f rows)(hle:m.Le m'):Sj m' z n f rows:=
 ⟨h.1,h.2.1,fun i row c x a h0 h1 h2 h3=>(h.2.2 i row c x a h0 h1 h2 h3).mono hle⟩
theorem RT.mono{m':Mp}{c:CT}{l:List (Gb c)}{rows:List (List V.AV)}(h:RT m c l rows)(hle:m.Le m'):RT m' c l rows:=⟨h.1,h.2.mono hle⟩
theorem RT.free(m':Mp){c:CT}{l:List (Gb c)}{rows:List (List V.AV)}(h:RT m c l rows):RT m' c l rows:=
 .of h.1 fun i row hi hr=>(h.get hr).free m' (Xd _ _ _)
theorem RT.nil{c:CT}:RT m c [] []:= .of rfl fun i row hi=>by simp at hi
theorem y_{c:CT}{l l':List (Gb c)}{i:Nat}:vw c (l++l') i=if i<l.length then vw c l i else vw c l' (i-l.length):=by
 simp only[vw,Ia];split
 ·rename_i h;rw[Ka h]
 ·rename_i h;rw[Na (by omega)]
theorem RT.append{c:CT}{l l':List (Gb c)}{rows Yd:List (List V.AV)}(h:RT m c l rows)(h':RT m c l' Yd):RT m c (l++l') (rows++Yd):=
 .of (by simp[h.1,h'.1]) fun i row hi hr=>by
  rw[y_];split
  ·rename_i Ac;rw[Ka (by rw[h.1];exact Ac)]at hr;exact h.get hr
  ·rename_i Jt;rw[Na (by rw[h.1];omega),h.1]at hr;exact h'.get hr
theorem RT.drop{c:CT}{l:List (Gb c)}{rows:List (List V.AV)}(h:RT m c l rows)(k:Nat):RT m c (l.drop k) (rows.drop k):=
 .of (by simp[h.1]) fun i row hi hr=>by
  rw[Ic]at hr;have:vw c (l.drop k) i=vw c l (k+i):=by simp only[vw,Ia,Ic]
  rw[this];exact h.get hr
theorem RT.take{c:CT}{l:List (Gb c)}{rows:List (List V.AV)}(h:RT m c l rows)(k:Nat):RT m c (l.take k) (rows.take k):=
 .of (by simp[h.1]) fun i row hi hr=>by
  rw[Db]at hr;split at hr
  ·rename_i hk;have:vw c (l.take k) i=vw c l i:=by simp only[vw,Ia,Db,if_pos hk]
   rw[this];exact h.get hr
  ·simp at hr
theorem nk{α:Type}(r n:Nat)(l:List α):qk r n l=(l.drop r).take n:=by cases r<;>rfl
theorem RT.rows{c:CT}{l:List (Gb c)}{rows:List (List V.AV)}(h:RT m c l rows){r:List V.AV}(hr:r∈rows):r.length=width c:=by
 obtain⟨i,hi⟩:=me hr;rw[(h.get hi).1,Ef]
theorem RT.block{c:CT}{l:List (Gb c)}{rows:List (List V.AV)}{b x:Nat}(hlen:m.len b 0=l.length)(cp:m.ι b 0=some x){ty:Option (TypeId×Nat)}(hb:Hv.bl[x]?=some (.cells rows (width c) ty))(h:RT m c l rows):RB m Hv b (.cells c l):=
 ⟨hlen,.inr ⟨x,rows,ty,cp,hb,Kh h.1.symm,h.2⟩⟩
theorem RH.Ir(hh:RH m H Hv){c:CT}{l:List (Gb c)}{rows:List (List V.AV)}(h:RT m c l rows){zl:Nat}(hz:zl=width c){ty:Option (TypeId×Nat)}:Jp m Hv (.all H.bl.length) (U.push H (.cells c l)) (.sl Hv.bl.length 0 l.length) (V.push Hv (.cells rows zl ty)):=by
 subst hz;have ze:=hh.new (y:= .cells c l) (yv:= .cells rows (width c) ty) (n:=l.length) (RT.block (zd _ _ _ _) (be _ _ _ _) (by rw[Ke,if_neg (by omega),if_pos rfl]) (h.mono (DN hh _ _)));refine⟨_,ze.1,?_,ze.2.1,ze.2.2⟩;have:=RV.all (m:=m.add H.bl.length (some Hv.bl.length) l.length) H.bl.length Hv.bl.length (be _ _ _ _);rw[zd]at this;exact this
theorem Qq{t e:TypeId}{c:CT}{x:Gb c}(h:elemOf A t=some ⟨c,x⟩)(he:V.elem? A t=some e):∃z,zero A e=some z/\OH c z=some x/\0<z.length/\V.size A e=some z.length/\width c=z.length:=by
 simp only[elemOf,he,ga,aa]at h;obtain⟨z,hz,c',hc,x',hx,h⟩:=h;split at h
 ·rename_i h1;simp only[Dc,Sigma.mk.injEq]at h;obtain⟨rfl,h2⟩:=h;have h2:=eq_of_heq h2;subst h2;exact⟨z,hz,hx,h1⟩
 ·simp at h
theorem Lv{zl:Nat}:∀{ps:List (Nat×UV)}{qs:List (Nat×V.AV)}{rows Tm:List (List UV)}{Yd:List (List V.AV)},Te rows ps=some Tm->RP m ps qs->Yd.length=rows.length->
  (∀(i:Nat)(row:List UV)(Lb:List V.AV),rows[i]?=some row->Yd[i]?=some Lb->RL m row Lb/\row.length=zl)->
  ∃YA,V.Te Yd qs=some YA/\YA.length=Tm.length/\Tm.length=rows.length/\∀(i:Nat)(row:List UV)(Lb:List V.AV),Tm[i]?=some row->YA[i]?=some Lb->RL m row Lb/\row.length=zl
 |[],qs,rows,Tm,Yd,h,hp,hl,hr=>by
  simp[Te]at h;subst h;have:qs=[]:=by have:=hp.1;simpa using this
  subst this;exact⟨Yd,rfl,hl,rfl,hr⟩
 |(i,x)::ps,qs,rows,Tm,Yd,h,hp,hl,hr=>by
  obtain⟨a,K7,rfl,hx,QL⟩:=hp.cons;simp only[Te,aa]at h;obtain⟨cs,aj,bR,X7,h⟩:=h;split at h
  case isFalse=>simp at h
  rename_i hc;obtain⟨Jh,q1,q2⟩:=Qs aj hx;have hi:=Za X7;have LV:=Ba (l:=Yd) (i:=i) (by omega);obtain⟨k1,k2⟩:=hr i bR _ X7 LV;obtain⟨YA,j1,j2,j3,j4⟩:=Lv (zl:=zl) (Yd:=Yd.set i Jh) h QL (by simp[hl]) (fun j row Lb e1 e2=>by
   rw[Ob]at e1 e2;by_cases e:i=j
   ·subst e;simp[hi]at e1;rw[if_pos rfl,if_pos (by omega)]at e2;simp at e2;subst e1;subst e2;exact⟨q2,by omega⟩
   ·rw[if_neg e]at e1 e2;exact hr j row Lb e1 e2)
  refine⟨YA,?_,j2,by rw[j3];simp,j4⟩;simp only[V.Te,q1,ga,LV];rw[if_pos (by rw[q2.1,k1.1];exact hc)];exact j1
theorem mm{c:CT}:∀{ps:List (Nat×UV)}{i:Nat}{H H':UH}{L:List (List (Gb c))},wh c i ps H=some (L,H')->H'.wm=H.wm
 |[],i,H,H',L,h=>by simp[wh]at h;rw[h.2]
 |(j,x)::ps,i,H,H',L,h=>by
  simp only[wh]at h;split at h
  case isFalse=>simp at h
  split at h
  ·simp only[aa]at h;obtain⟨⟨l,H1⟩,h1,h⟩:=h;simp at h;rw[<- h.2];exact mm h1
  ·simp only[aa]at h;obtain⟨⟨l,H1⟩,h1,h⟩:=h;simp at h;rw[<- h.2];exact mm h1
  ·split at h
   ·split at h
    ·simp only[aa]at h;obtain⟨⟨l,H1⟩,h1,h⟩:=h;simp at h;rw[<- h.2];exact(mm h1).trans rfl
    ·simp at h
   ·simp at h
  ·simp at h
theorem Cw{c:CT}{Hv:V.AH}{m:Mp}:∀{ps:List (Nat×UV)}{i:Nat}{H H':UH}{L:List (List (Gb c))}{qs:List (Nat×V.AV)},wh c i ps H=some (L,H')->RH m H Hv->RP m ps qs->
  L.length=qs.length/\RH m H' Hv/\(∀b,live H' b->live H b)/\(∀r q,qs[r]?=some q->q.1=i+r/\q.2.cells?=some [q.2])/\
  ∃F:Nat->Option Nat,(∀r x,F r=some x->r<L.length/\∃b,m.ι b 0=some x/\H.wm<=b/\live H b/\¬live H' b)/\(∀r r' x,F r=some x->F r'=some x->r=r')/\∀r q,qs[r]?=some q->Il m Hv (F r) c (L.getD r []) q.2
 |[],i,H,H',L,qs,h,hh,hp=>by
  simp[wh]at h;obtain⟨rfl,rfl⟩:=h;have:qs=[]:=by have:=hp.1;simpa using this
  subst this;exact⟨rfl,hh,fun _ h=>h,fun r q h=>by simp at h,fun _=>none,fun r x h=>by simp at h,fun r r' x h=>by simp at h,fun r q h=>by simp at h⟩
 |(j,x)::ps,i,H,H',L,qs,h,hh,hp=>by
  obtain⟨a,K7,rfl,hx,QL⟩:=hp.cons;simp only[wh]at h;split at h
  case isFalse=>simp at h
  rename_i hj;subst hj;have fin:∀{l0:List (Gb c)}{l:List (List (Gb c))}{H0 H1:UH}{o:Option Nat},wh c (j+1) ps H0=some (l,H1)->RH m H0 Hv->(∀b,live H0 b->live H b)->H0.wm=H.wm->(∀y,o=some y->∃b,m.ι b 0=some y/\H.wm<=b/\live H b/\¬live H0 b)->a.cells?=some [a]->Il m Hv o c l0 a->l0::l=L->H1=H'->
    (L.length=((j,a)::K7).length/\RH m H' Hv/\(∀b,live H' b->live H b)/\(∀r q,((j,a)::K7)[r]?=some q->q.1=j+r/\q.2.cells?=some [q.2])/\
    ∃F:Nat->Option Nat,(∀r x,F r=some x->r<L.length/\∃b,m.ι b 0=some x/\H.wm<=b/\live H b/\¬live H' b)/\(∀r r' x,F r=some x->F r'=some x->r=r')/\∀r q,((j,a)::K7)[r]?=some q->Il m Hv (F r) c (L.getD r []) q.2):=fun{l0 l H0 H1 o}h1 v8 mJ qO ho hca sd hL hH=>by
   subst hL;subst hH;obtain⟨k1,k2,k3,k4,F,k5,k6,k7⟩:=Cw h1 v8 QL;refine⟨by simp[k1],k2,fun b hb=>mJ b (k3 b hb),fun r q hq=> ?_,fun r=>match r with|0=>o|r+1=>F r,fun r y hy=> ?_,fun r r' y hy Wf=> ?_,fun r q hq=> ?_⟩
   ·cases r with
    |zero=>simp at hq;subst hq;exact⟨rfl,hca⟩
    |succ r=>have:=k4 r q (by simpa using hq);exact⟨by omega,this.2⟩
   ·cases r with
    |zero=>
     obtain⟨b,b1,b2,b3,b4⟩:=ho y hy;exact⟨by simp,b,b1,b2,b3,fun hb=>b4 (k3 b hb)⟩
    |succ r=>
     obtain⟨c1,b,b1,b2,b3,b4⟩:=k5 r y hy;exact⟨by simp;omega,b,b1,by rw[<- qO];exact b2,mJ b b3,b4⟩
   ·have k_:∀r,o=some y->F r=some y->False:=fun r h1 h2=>by
     obtain⟨b,b1,b2,b3,b4⟩:=ho y h1;obtain⟨_,b',b1',b2',b3',b4'⟩:=k5 r y h2;have:=hh.inj b b' y b3 (mJ b' b3') b1 b1';subst this;exact b4 b3'
    cases r with
    |zero=>
     cases r' with
     |zero=>rfl
     |succ r'=>exact(k_ r' hy Wf).elim
    |succ r=>
     cases r' with
     |zero=>exact(k_ r Wf hy).elim
     |succ r'=>rw[k6 r r' y hy Wf]
   ·cases r with
    |zero=>simp at hq;subst hq;exact sd
    |succ r=>exact k7 r q (by simpa using hq)
  split at h
  ·simp only[aa]at h;obtain⟨⟨l,H1⟩,h1,h⟩:=h;simp at h;cases hx;exact fin (l0:=[]) (o:=none) h1 hh (fun _ h=>h) rfl (fun y h=>by simp at h) rfl (.inl ⟨rfl,rfl,.inl rfl⟩) h.1 h.2
  ·simp only[aa]at h;obtain⟨⟨l,H1⟩,h1,h⟩:=h;simp at h;cases hx;exact fin (l0:=[]) (o:=none) h1 hh (fun _ h=>h) rfl (fun y h=>by simp at h) rfl (.inl ⟨rfl,rfl,.inr rfl⟩) h.1 h.2
  ·rename_i b;split at h
   case h_2=>simp at h
   rename_i c' l0 hb;split at h
   case isFalse=>simp at h
   rename_i hc;obtain⟨rfl,OE⟩:=hc;simp only[aa]at h;obtain⟨⟨l,H1⟩,h1,h⟩:=h;simp at h;obtain⟨k0,kx⟩:=Cc (s:=⟨[],[],H,0⟩) (sv:=⟨[],[],Hv⟩) hh hb;have ae:live H b:=⟨_,hb,rfl⟩;have Lj:∀b',live (Ra H b .dead) b'->b'≠b/\live H b':=fun b' h=>by
    rcases sg h with⟨_,h'⟩|h'
    ·simp[Zd]at h'
    ·exact h'
   cases hx with
   |all _ x hx0=>
    obtain⟨rows,ty,k2,k3,k4⟩:=kx x hx0;exact fin (l0:=l0) (o:=some x) h1 (hh.kill b) (fun b' h=>(Lj b' h).2) rfl (fun y e=>by simp at e;subst e;exact⟨b,hx0,OE,ae,fun hb=>(Lj b hb).1 rfl⟩) rfl (.inr ⟨x,rows,ty,rfl,by rw[k0],k2,k3,k4⟩) h.1 h.2
   |Yf _ _ _ hl ha=>exact fin (l0:=l0) (o:=none) h1 (hh.kill b) (fun b' h=>(Lj b' h).2) rfl (fun y e=>by simp at e) (by rcases ha with rfl|rfl<;>rfl) (.inl ⟨by rw[<- k0];exact hl,rfl,ha⟩) h.1 h.2
  ·simp at h
theorem Mv{z:List V.AV}(hz:z.length=1):∀{qs:List (Nat×V.AV)}{pre:List (List V.AV)},(∀r q,qs[r]?=some q->q.1=pre.length+r/\q.2.cells?=some [q.2])->V.Te (pre++Ca qs.length z) qs=some (pre++qs.map fun q=>[q.2])
 |[],pre,_=>by simp[V.Te]
 |(j,a)::qs,pre,h=>by
  obtain⟨h1,h2⟩:=h 0 (j,a) rfl;simp only[Je]at h1 h2;subst h1;have hg:(pre++Ca (qs.length+1) z)[pre.length]?=some z:=by simp[Na,ji]
  have hs:(pre++Ca (qs.length+1) z).set pre.length [a]=(pre++[[a]])++Ca qs.length z:=by
   rw[List.set_append_right _ _ (va _),Nat.sub_self,List.replicate_succ,List.set_cons_zero,xd];rfl
  have ih:=Mv hz (qs:=qs) (pre:=pre++[[a]]) fun r q hq=>by
   obtain⟨k1,k2⟩:=h (r+1) q (by simpa using hq);exact⟨by simp;omega,k2⟩
  simp only[V.Te,h2,ga,Jb,hg];rw[if_pos (by simp[hz]),hs,ih]
  simp
theorem Rq{t:TypeId}{n:Nat}{ps:List (Nat×UV)}{qs:List (Nat×V.AV)}{v:UV}(h:buildSlice A H t n ps=some (v,H'))(hh:RH m H Hv)(hp:RP m ps qs):∃a Nc,V.buildSlice A Hv t n qs=some (a,Nc)/\Jp m Hv v H' a Nc:=by
 simp only[buildSlice,aa]at h;obtain⟨e,he,z,hz,⟨c,x0⟩,yU,h⟩:=h;obtain⟨z0,hz0,hd0,Lf,ue,C2⟩:=Qq yU he;rw[hz]at hz0;simp at hz0;subst hz0;obtain⟨z',q1,q2,q3⟩:=Np hz;have Yz:z'.length=z.length:=(q2 m).1;simp only at h;split at h
 case isFalse=>simp at h
 rename_i hc;unfold V.buildSlice;simp only[he,q1,ga];rw[if_pos (by rw[Yz];exact⟨hc,Lf,ue⟩)];have hql:qs.length=ps.length:=by have:=congrArg da hp.1;simpa using this
 split at h
 ·rename_i h0;simp at h;obtain⟨rfl,rfl⟩:=h;rw[if_pos (by rw[hql];exact h0)];exact⟨_,_,rfl,.same hh .Ud⟩
 ·rename_i h0;rw[if_neg (by rw[hql];exact h0)];split at h
  ·rename_i r0 M2;simp at h;subst h;unfold tN at M2;split at M2
   case h_2=>simp at M2
   rename_i c1 x1 Naa;rw[yU]at Naa;simp at Naa;obtain⟨rfl,_⟩:=Naa;split at M2
   case isFalse=>simp at M2
   rename_i hcn;obtain⟨hlen,qap⟩:=hcn;simp only[aa]at M2;obtain⟨⟨L,H1⟩,hdr,M2⟩:=M2;simp at M2;obtain⟨rfl,rfl⟩:=M2;obtain⟨k1,k2,k3,k4,F,k5,k6,k7⟩:=Cw hdr hh hp;have qU:z'.length=1:=by rw[Yz,<- C2];rfl
   have dW:=Mv qU (qs:=qs) (pre:=[]) (fun r q hq=>by obtain⟨j1,j2⟩:=k4 r q hq;exact⟨by simpa using j1,j2⟩);simp only[List.nil_append]at dW;rw[hql,hlen]at dW;have ze:=k2.VN (c:=c1) (L:=L) (rows:=qs.map fun q=>[q.2]) (ty:=some (e,1)) (F:=F) (by simp[k1]) (fun r x h=>by
     obtain⟨_,b,b1,b2,b3,b4⟩:=k5 r x h;exact⟨⟨b,0,b1⟩,hh.wm b x b1 b2,fun b' s' bg e'=>b4 ((hh.inj b' b x (k3 b' bg) b3 e' b1) ▸ bg)⟩) k6
    (fun r hr=>by
     cases hf:F r with
     |none=>rfl
     |some x=>have:=(k5 r x hf).1;omega) (fun r hr=>by
     have hq:=Ba (l:=qs) (i:=r) (by omega);exact⟨_,by rw[Tb,hq];rfl,k7 r _ hq⟩)
   have hLn:L.length=n:=by rw[k1,hql,hlen]
   rw[hLn]at ze;exact⟨.sl Hv.bl.length 0 n,V.push Hv (.cells (qs.map fun q=>[q.2]) z'.length (some (e,1))),by rw[dW];rfl,by rw[qU];exact ze⟩
  simp only[aa]at h;obtain⟨rows,Pc,l,hl,h⟩:=h;simp at h;obtain⟨rfl,rfl⟩:=h;obtain⟨Yd,k1,k2,k3,k4⟩:=Lv (zl:=z.length) (Yd:=Ca n z') Pc hp (by simp) (fun i row Lb e1 e2=>by
   rw[ji]at e1 e2;split at e1
   ·rename_i hi;rw[if_pos hi]at e2;simp at e1 e2;subst e1;subst e2;exact⟨q2 m,rfl⟩
   ·simp at e1)
  obtain⟨d1,d2⟩:=zK (m:=m) hl;have hn:rows.length=n:=by rw[k3];simp
  have vU:RT m c l Yd:= .of (by rw[k2,d1]) fun i row hi hr=>by
   have S4:=Ba (l:=rows) (i:=i) (by omega);exact d2 i _ S4 (k4 i _ row S4 hr).1
  have OC:l.length=n:=by rw[d1,hn]
  have:=hh.Ir vU (zl:=z'.length) (by rw[Yz,C2]) (ty:=some (e,1));rw[OC]at this;exact⟨.sl Hv.bl.length 0 n,V.push Hv (.cells Yd z'.length (some (e,1))),by simp[k1],this⟩
theorem cD{t:TypeId}{l c:UV}{K:UV->UH->Option X}(h:makeSlice A H t l c K=some out):
  ∃v H',K v H'=some out/\H'.wm=H.wm/\∀(m:Mp)(Hv:V.AH)(l' c':V.AV),RH m H Hv->RV m l l'->RV m c c'->∃a Nc,V.makeSlice A Hv t l' c'=some (a,Nc)/\Jp m Hv v H' a Nc:=by
 unfold makeSlice at h;split at h
 case h_2=>simp at h
 rename_i k1 l0 k2 c0;simp only[aa]at h;obtain⟨e,he,⟨ct,x0⟩,yU,n,hn,h⟩:=h;obtain⟨z,hz,hd0,Lf,ue,C2⟩:=Qq yU he;obtain⟨h0,h⟩:=Cd h;simp only[Va,decide_eq_true_eq]at h0;refine⟨_,_,h,rfl,fun m Hv l' c' hh hl Kz=> ?_⟩;cases hl;cases Kz;obtain⟨z',q1,q2,q3⟩:=Np hz;have Yz:z'.length=z.length:=(q2 m).1;have vU:RT m ct (Ca l0.toNat x0) (Ca l0.toNat z'):= .of (by simp) fun i row hi hr=>by
  rw[Of]at hi;rw[ji,if_pos hi]at hr;simp at hr;subst hr;have:vw ct (Ca l0.toNat x0) i=enc ct x0:=by simp[vw,Ia,ji,hi]
  rw[this];exact Gn hd0 (q2 m)
 have:=hh.Ir vU (zl:=z'.length) (by rw[Yz,C2]) (ty:=some (e,1));rw[Of]at this;refine⟨.sl Hv.bl.length 0 l0.toNat,V.push Hv (.cells (Ca l0.toNat z') z'.length (some (e,1))),?_,this⟩;simp only[V.makeSlice,he,q1,hn,ga];rw[if_pos ⟨h0.1.1.1,h0.1.1.2,h0.1.2,h0.2,by rw[Yz];exact Lf,by rw[Yz];exact ue⟩]
theorem yC(m:Mp)(s:ByteArray):RT m (.int .u8) (zN s) (V.uc s):=by
 refine .of (by simp only[V.uc,Qc];exact(Qc ..).symm) fun i row hi hr=> ?_
 simp only[V.uc,Tb,ia]at hr;obtain⟨b,hb,rfl⟩:=hr;have h1:(zN s)[i]?=some ((b.toNat:Nat):Int):=by
  simp only[zN,Tb,hb,Oc]
 have h2:vw (.int .u8) (zN s) i=[.int .u8 ((b.toNat:Nat):Int)]:=
  congrArg (fun o:Option Int=>[UV.int .u8 (o.getD 0)]) h1
 rw[h2];exact .cons (.int _ _) .nil
theorem Dh{y:UV}{c:CT}{g:List (Gb c)}{a:V.AV}(h:rowsOf H c y=some g)(hh:RH m H Hv)(hy:RV m y a):∃rows,Rn Hv a=some rows/\RT m c g rows:=by
 cases hy with
 |lit c' l rows h1 h2 h3=>
  simp only[rowsOf]at h;split at h
  case isFalse=>simp at h
  rename_i hc;subst hc;simp at h;subst h;exact⟨rows,rfl,h1,fun i _=>⟨Ef _ _ _,Xd _ _ _⟩,fun i row _=>h2 i row,fun i row k x a _=>h3 i row k x a⟩
 |di c' a ha=>
  simp only[rowsOf]at h;split at h
  case isFalse=>simp at h
  rename_i hc;subst hc;simp at h;subst h;exact⟨[],by rcases ha with rfl|rfl<;>rfl,.nil⟩
 |all b x hx=>
  simp only[rowsOf]at h;split at h
  case h_2=>simp at h
  rename_i c' l hb;split at h
  case isFalse=>simp at h
  rename_i hc;subst hc;simp at h;subst h;obtain⟨k0,k1⟩:=Cc (s:=⟨[],[],H,0⟩) (sv:=⟨[],[],Hv⟩) hh hb;obtain⟨rows,ty,k2,k3,k4⟩:=k1 x hx;have vR:Hv.bl[x]?=some (.cells rows (width c') ty):=k2;refine⟨rows.take l.length,?_,.of (by simp;omega) fun i row hi hr=> ?_⟩
  ·show V.rowsOf Hv (.sl x 0 (m.len b 0))=_;simp only[V.rowsOf,vR];rw[if_pos (by omega),k0];simp
  ·rw[Db,if_pos hi]at hr;obtain⟨Lb,j1,j2,j3⟩:=k4.row k3 hi;rw[j1]at hr;simp at hr;subst hr;exact j2
 |Yf b a Ac hl ha=>
  simp only[rowsOf]at h;split at h
  case h_2=>simp at h
  rename_i c' l hb;split at h
  case isFalse=>simp at h
  rename_i hc;subst hc;simp at h;subst h;obtain⟨k0,k1⟩:=Cc (s:=⟨[],[],H,0⟩) (sv:=⟨[],[],Hv⟩) hh hb;have:l=[]:=by rw[hl]at k0;exact Ja.1 k0.symm
  subst this;exact⟨[],by rcases ha with rfl|rfl<;>rfl,.nil⟩
 |sl b r n0 x hx hle=>
  simp only[rowsOf]at h;split at h
  case h_2=>simp at h
  rename_i c' l hb;split at h
  case isFalse=>simp at h
  rename_i hc;subst hc;simp at h;subst h;obtain⟨k0,k1⟩:=Cc (s:=⟨[],[],H,0⟩) (sv:=⟨[],[],Hv⟩) hh hb;obtain⟨rows,ty,k2,k3,k4⟩:=k1 x hx;have vR:Hv.bl[x]?=some (.cells rows (width c') ty):=k2;have xO:RT m c' l (rows.take l.length):= .of (by simp;omega) fun i row hi hr=>by
   rw[Db,if_pos hi]at hr;obtain⟨Lb,j1,j2,j3⟩:=k4.row k3 hi;rw[j1]at hr;simp at hr;subst hr;exact j2
  refine⟨(rows.drop r).take n0,?_,?_⟩
  ·show V.rowsOf Hv (.sl x r n0)=_;simp only[V.rowsOf,vR];rw[if_pos (by omega)]
  ·rw[nk];have:=(xO.drop r).take n0;rw[List.drop_take,List.take_take,Nat.min_eq_left (by omega)]at this;exact this
 |xp b r x hx=>
  simp only[rowsOf]at h;split at h
  case h_2=>simp at h
  rename_i c' l hb;split at h
  case isFalse=>simp at h
  rename_i hc;subst hc;have h:some (l.getD r [])=some g:=h;injection h with h
  subst h;obtain⟨_,k1,_⟩:=Wd (s:=⟨[],[],H,0⟩) (sv:=⟨[],[],Hv⟩) hh hb;obtain⟨wG,rows,ty,k2,k3,k4⟩:=Bw (s:=⟨[],[],H,0⟩) (sv:=⟨[],[],Hv⟩) hh hb hx;have vR:Hv.bl[x]?=some (.cells rows (width c') ty):=k2;refine⟨rows.take (l.getD r []).length,?_,.of (by rw[ic];omega) fun i row hi hr=> ?_⟩
  ·show V.rowsOf Hv (.sl x 0 (m.len b (r+1)))=_;simp only[V.rowsOf,vR];rw[k1 r,if_pos (by omega)];simp
  ·rw[Db,if_pos hi]at hr;obtain⟨Lb,j1,j2,j3⟩:=k4.row k3 hi;rw[j1]at hr;simp at hr;subst hr;exact j2
 |vu b r a Ac hl ha=>
  simp only[rowsOf]at h;split at h
  case h_2=>simp at h
  rename_i c' l hb;split at h
  case isFalse=>simp at h
  rename_i hc;subst hc;have h:some (l.getD r [])=some g:=h;injection h with h
  subst h;obtain⟨_,k1,_⟩:=Wd (s:=⟨[],[],H,0⟩) (sv:=⟨[],[],Hv⟩) hh hb;have:l.getD r []=[]:=by rw[k1 r]at hl;exact Ja.1 hl
  rw[this];exact⟨[],by rcases ha with rfl|rfl<;>rfl,.nil⟩
 |Bt b r a ha=>
  simp only[rowsOf]at h;split at h
  case h_2=>simp at h
  rename_i c' l hb;split at h
  case isFalse=>simp at h
  rename_i hc;subst hc;simp at h;subst h;exact⟨[],by rcases ha with rfl|rfl<;>rfl,by rw[nk];exact .nil⟩
 |str s=>
  simp only[rowsOf]at h;split at h
  case isFalse=>simp at h
  rename_i hc;subst hc;injection h with h
  subst h;exact⟨V.uc s,rfl,yC m s⟩
 |_=>simp[rowsOf]at h
def y7(m:Mp)(H:UH)(Hv:V.AH)(x:Nat):Prop:=(∃b s,m.ι b s=some x)/\Hv.wm<=x/\∀b s,live H b->m.ι b s≠some x
theorem CF(hh:RH m H Hv){c:CT}{f g:List (List (Gb c))}{xs ys:List (List V.AV)}{Fx Fy:Nat->Option Nat}{ty:Option (TypeId×Nat)}(l5:xs.length=f.length)(hgy:ys.length=g.length)
  (hFx:∀r x,r<f.length->Fx r=some x->y7 m H Hv x) (hFy:∀r x,Fy r=some x->y7 m H Hv x) (Rf:∀r r' x,r<f.length->r'<f.length->Fx r=some x->Fx r'=some x->r=r') (hyi:∀r r' x,Fy r=some x->Fy r'=some x->r=r')
  (hxy:∀r r' x,r<f.length->Fx r=some x->Fy r'≠some x) (hyo:∀r,g.length<=r->Fy r=none) (hrx:∀r,r<f.length->∃a,xs[r]?=some [a]/\Il m Hv (Fx r) c (f.getD r []) a) (hry:∀r,r<g.length->∃a,ys[r]?=some [a]/\Il m Hv (Fy r) c (g.getD r []) a):
  Jp m Hv (.all H.bl.length) (push H (.deep c (f++g))) (.sl Hv.bl.length 0 (f++g).length) (V.push Hv (.cells (xs++ys) 1 ty)):=by
 have hF:∀r x,(if r<f.length then Fx r else Fy (r-f.length))=some x->y7 m H Hv x:=fun r x h=>by
  split at h
  ·rename_i hr;exact hFx r x hr h
  ·exact hFy _ x h
 refine hh.VN (F:=fun r=>if r<f.length then Fx r else Fy (r-f.length)) (by simp[l5,hgy]) hF (fun r r' x h1 h2=> ?_) (fun r hr=> ?_) (fun r hr=> ?_)
 ·split at h1<;>split at h2
  ·rename_i a b;exact Rf r r' x a b h1 h2
  ·rename_i a b;exact(hxy r _ x a h1 h2).elim
  ·rename_i a b;exact(hxy r' _ x b h2 h1).elim
  ·have:=hyi _ _ x h1 h2;omega
 ·rw[qd]at hr;rw[if_neg (by omega)];exact hyo _ (by omega)
 ·rw[qd]at hr;by_cases h:r<f.length
  ·obtain⟨a,k1,k2⟩:=hrx r h;refine⟨a,by rw[Ka (by omega)];exact k1,?_⟩;rw[if_pos h];simp only[Ia]at k2 ⊢;rw[Ka h];exact k2
  ·obtain⟨a,k1,k2⟩:=hry (r-f.length) (by omega);refine⟨a,by rw[Na (by omega),l5];exact k1,?_⟩;rw[if_neg h];simp only[Ia]at k2 ⊢;rw[Na (by omega)];exact k2
theorem rN{y:UV}{b:Nat}{c:CT}{a:List (Gb c)}{l:List (List (Gb c))}(h:M0 H y=some (b,⟨c,a,l⟩)):y= .all b/\H.bl[b]?=some (.deep c (a::l))/\H.wm<=b:=by
 unfold M0 at h;split at h
 ·rename_i b0;split at h
  ·rename_i c0 a0 l0 hb;split at h
   ·rename_i hw;simp only[Dc,Prod.mk.injEq,Sigma.mk.injEq]at h;obtain⟨rfl,rfl,h⟩:=h;have h:=eq_of_heq h;simp only[Prod.mk.injEq]at h;obtain⟨rfl,rfl⟩:=h;exact⟨rfl,hb,hw⟩
   ·simp at h
  ·simp at h
 ·simp at h
theorem sN{x:UV}{b:Nat}{c:CT}{f:List (List (Gb c))}{H0:UH}(h:N0 H c b x=some (f,H0)):
  ((x= .Xa\/x= .Ud)/\f=[]/\H0=Ra H b .dead)\/∃b1,x= .all b1/\H.bl[b1]?=some (.deep c f)/\b1≠b/\H.wm<=b1/\H0=Ra (Ra H b1 .dead) b .dead:=by
 unfold N0 at h;split at h
 ·simp at h;exact .inl ⟨.inl rfl,h.1.symm ▸ rfl,h.2.symm⟩
 ·simp at h;exact .inl ⟨.inr rfl,h.1.symm ▸ rfl,h.2.symm⟩
 ·rename_i b1;split at h
  ·rename_i c' l hb;split at h
   ·rename_i hc;obtain⟨rfl,h1,h2⟩:=hc;simp at h;obtain⟨rfl,rfl⟩:=h;exact .inr ⟨b1,rfl,hb,h1,h2,rfl⟩
   ·simp at h
  ·simp at h
 ·simp at h
theorem BN{ts:Array TypeId}{x y:UV}{K:UV->UH->Option X}(h:append A H ts x y K=some out):
  ∃v H',K v H'=some out/\H'.wm=H.wm/\∀(m:Mp)(Hv:V.AH)(x' y':V.AV),RH m H Hv->RV m x x'->RV m y y'->∃a Nc,V.append A Hv ts x' y'=some (a,Nc)/\Jp m Hv v H' a Nc:=by
 simp only[append,aa]at h;obtain⟨t,ht,e,he,⟨c,x0⟩,yU,nb,hnb,_,gD,h⟩:=h;obtain⟨z,hz,hd0,Lf,ue,C2⟩:=Qq yU he;obtain⟨z',q1,q2,q3⟩:=Np hz;have Yz:z'.length=z.length:=(q2 ⟨fun _ _=>none,fun _ _=>0,0⟩).1;simp only at h;have Wo:∀(Hv:V.AH)(x' y':V.AV)(xs ys:List (List V.AV)),V.rowsOf Hv x'=some xs->Rn Hv y'=some ys->
   (xs.length+ys.length) * nb<=70368744177664->xs.length+ys.length<9223372036854775808->(∀r∈ys,r.length=width c)->
   V.append A Hv ts x' y'=if ys.length=0 then some (x',Hv)else Bu Hv x' xs ys z'.length e:=fun Hv x' y' xs ys h1 h2 h3 h4 h5=>by
  unfold V.append;simp only[ht,he,q1,hnb,ga];have fin:(V.rowsOf Hv x').bind (fun xs=>(Rn Hv y').bind fun ys=>
   if(xs.length+ys.length) * nb<=70368744177664/\xs.length+ys.length<9223372036854775808/\0<z'.length/\V.size A e=some z'.length/\ys.all (fun r=>r.length==z'.length)then
    if ys.length=0 then some (x',Hv)else Bu Hv x' xs ys z'.length e
   else none)=if ys.length=0 then some (x',Hv)else Bu Hv x' xs ys z'.length e:=by
   rw[h1,ga,h2,ga,if_pos ⟨h3,h4,by rw[Yz];exact Lf,by rw[Yz];exact ue,tc.2 fun r hr=>by simp[Yz,<- C2];exact h5 r hr⟩]
  cases nD:ts[1]? with
  |none=>exact fin
  |some u=>
   rw[nD]at gD;cases hu:A.P.underlying u with
   |none=>simp[hu]at gD
   |some d=>
    simp only[hu]at gD;simp only[hu];cases d<;>first|exact fin|(simp at gD)
 have hzw:z'.length=width c:=by rw[Yz,C2]
 have yj:∀{y:UV},(y= .Xa\/y= .Ud)->(x= .Xa\/x= .Ud)->K x H=some out->∃v H',K v H'=some out/\H'.wm=H.wm/\∀(m:Mp)(Hv:V.AH)(x' y':V.AV),RH m H Hv->RV m x x'->RV m y y'->∃a Nc,V.append A Hv ts x' y'=some (a,Nc)/\Jp m Hv v H' a Nc:=fun{y}hy hx h=>by
  refine⟨x,H,h,rfl,fun m Hv x' y' hh oO BR=> ?_⟩;have Nx:Rn Hv y'=some []:=by rcases hy with rfl|rfl<;>cases BR<;>rfl
  have Lr:V.rowsOf Hv x'=some []:=by rcases hx with rfl|rfl<;>cases oO<;>rfl
  exact⟨x',Hv,by rw[Wo Hv x' y' [] [] Lr Nx (by simp) (by simp) (by simp)];rfl,.same hh oO⟩
 have N7:∀{m:Mp}{H0:UH}{Hv:V.AH}{x' y':V.AV}{g:List (Gb c)}{ys:List (List V.AV)},RH m H0 Hv->(x'= .Xa\/x'= .Ud)->Rn Hv y'=some ys->RT m c g ys->
   g.length * nb<=70368744177664->g.length<9223372036854775808->∃a Nc,V.append A Hv ts x' y'=some (a,Nc)/\Jp m Hv (.all H0.bl.length) (push H0 (.cells c g)) a Nc:=fun{m H0 Hv x' y' g ys}hh rU k1 k2 h1 h2=>by
  have Lr:V.rowsOf Hv x'=some []:=by rcases rU with rfl|rfl<;>rfl
  have hv:=Wo Hv x' y' [] ys Lr k1 (by simpa[k2.1]using h1) (by simpa[k2.1]using h2) (fun r hr=>k2.rows hr);by_cases TV:g.length=0
  ·rw[if_pos (by rw[k2.1];exact TV)]at hv;have hp:=hh.push (Nc:=Hv) (y:= .cells c g) (x:=none) (n:=0) (fun _ _ _ _ _=>rfl) (va _) rfl (fun xv e=>by simp at e) ⟨by rw[zd];exact TV.symm,.inl ⟨TV,be _ _ _ _⟩⟩;refine⟨x',Hv,hv,_,hp.1,.Yf _ x' (by simp[Mp.add,Mp.Ni]) (zd _ _ _ _) rU,hp.2,⟨Mg hh _ _,fun _ _ _=>rfl,fun b _ xv hb=> ?_,va _,rfl⟩⟩;by_cases e:b=H0.bl.length
   ·subst e;obtain⟨_,e⟩:=Ki hb;simp at e
   ·rw[Gf _ _ _ e]at hb;exact .inl ⟨b,_,hb⟩
  ·rw[if_neg (by rw[k2.1];exact TV)]at hv;refine⟨.sl Hv.bl.length 0 g.length,V.push Hv (.cells ys z'.length (some (e,1))),?_,hh.Ir k2 hzw⟩;rw[hv];rcases rU with rfl|rfl<;>simp[Bu,k2.1]
 have U4:∀{g:List (Gb c)},(x= .Xa\/x= .Ud)->rowsOf H c y=some g->ask (decide (g.length * nb<=70368744177664)&&decide (g.length<9223372036854775808)) (K (.all H.bl.length) (push H (.cells c g)))=some out->
   ∃v H',K v H'=some out/\H'.wm=H.wm/\∀(m:Mp)(Hv:V.AH)(x' y':V.AV),RH m H Hv->RV m x x'->RV m y y'->∃a Nc,V.append A Hv ts x' y'=some (a,Nc)/\Jp m Hv v H' a Nc:=fun{g}hx Pc h=>by
  obtain⟨h0,h⟩:=Cd h;simp only[Va,decide_eq_true_eq]at h0;refine⟨_,_,h,rfl,fun m Hv x' y' hh oO BR=> ?_⟩;obtain⟨ys,k1,k2⟩:=Dh Pc hh BR;have rU:x'= .Xa\/x'= .Ud:=by rcases hx with rfl|rfl<;>cases oO<;>simp
  exact N7 hh rU k1 k2 h0.1 h0.2
 have Ip:∀{b n0 r0:Nat}{f g:List (Gb c)},(g=[]->r0=0)->H.wm<=b->rowsOf H c x=some f->rowsOf H c y=some g->(∀{m:Mp}{Hv:V.AH}{x':V.AV},RH m H Hv->RV m x x'->n0=f.length/\((∃xi,m.ι b 0=some xi/\x'= .sl xi r0 n0)\/((x'= .Xa\/x'= .Ud)/\f=[])))->(∃c' l',H.bl[b]?=some (.cells c' l')/\c'=c)->
   ask (decide ((n0+g.length) * nb<=70368744177664)&&decide (n0+g.length<9223372036854775808)) (K (.all H.bl.length) (push (Ra H b .dead) (.cells c (f++g))))=some out->
   ∃v H',K v H'=some out/\H'.wm=H.wm/\∀(m:Mp)(Hv:V.AH)(x' y':V.AV),RH m H Hv->RV m x x'->RV m y y'->∃a Nc,V.append A Hv ts x' y'=some (a,Nc)/\Jp m Hv v H' a Nc:=fun{b n0 r0 f g}hg0 OE l5 Pc sU⟨c',l',hb,Kz⟩h=>by
  obtain⟨h0,h⟩:=Cd h;simp only[Va,decide_eq_true_eq]at h0;refine⟨_,_,h,rfl,fun m Hv x' y' hh oO BR=> ?_⟩;obtain⟨ys,k1,k2⟩:=Dh Pc hh BR;obtain⟨xs,j1,j2⟩:=Dh l5 hh oO;have ae:live H b:=⟨_,hb,rfl⟩;have Si:=hh.kill b;have Lj:∀{b'},live (Ra H b .dead) b'->b'≠b/\live H b':=fun h=>by
   rcases sg h with⟨_,h'⟩|h'
   ·simp[Zd]at h'
   ·exact h'
  have hlen:(Ra H b .dead).bl.length=H.bl.length:=by simp[Ra]
  obtain⟨UL,sU⟩:=sU hh oO;rcases sU with⟨xi,Rf,rfl⟩|⟨rU,rfl⟩
  ·have j1':V.rowsOf Hv (.sl xi r0 n0)=some xs:=j1;have jaf:=hh.wm b xi Rf OE;subst Kz;obtain⟨kb,kx⟩:=Cc (s:=⟨[],[],H,0⟩) (sv:=⟨[],[],Hv⟩) hh hb;obtain⟨rows,ty,i2,i3,i4⟩:=kx xi Rf;have i2':Hv.bl[xi]?=some (.cells rows (width c') ty):=i2;have hv:=Wo Hv (.sl xi r0 n0) y' xs ys j1' k1 (by rw[j2.1,k2.1,<- UL];exact h0.1) (by rw[j2.1,k2.1,<- UL];exact h0.2) (fun r hr=>k2.rows hr);by_cases TV:g.length=0
   ·rw[if_pos (by rw[k2.1];exact TV)]at hv;have Jt:g=[]:=Ja.1 TV;have S4:=hg0 Jt;subst S4;subst Jt;rw[Nn];have hp:=Si.push (Nc:=Hv) (y:= .cells c' f) (x:=some xi) (n:=f.length) (fun _ _ _ _ _=>rfl) (va _) rfl (fun xv e=>by
     simp at e;subst e;exact⟨(hh.Ie b xi Rf).2,jaf,fun b' s' bg e'=>(Lj bg).1 (hh.inj b' b xi (Lj bg).2 ae e' Rf)⟩) (by
     have xR:=j1';simp only[V.rowsOf,i2']at xR;split at xR
     case isFalse=>simp at xR
     rename_i hle;simp at xR;refine⟨zd _ _ _ _,.inr ⟨xi,rows,ty,be _ _ _ _,i2',by omega,?_⟩⟩;refine⟨fun i _=>⟨Ef _ _ _,Xd _ _ _⟩,fun i row hi hr=> ?_,fun i row k y a hi hr h1 h2=> ?_⟩
     ·have:xs[i]?=some row:=by rw[<- xR,Db,if_pos (by omega)];exact hr
      exact j2.rows (Nb this)
     ·have:xs[i]?=some row:=by rw[<- xR,Db,if_pos (by omega)];exact hr
      exact((j2.get this).free _ (Xd _ _ _)).2 k y a h1 h2)
    rw[hlen]at hp;refine⟨.sl xi 0 n0,Hv,hv,_,hp.1,?_,hp.2,⟨by have:=Mg Si;simpa only[hlen]using this _ _,fun _ _ _=>rfl,fun b' _ xv Ld=> ?_,va _,rfl⟩⟩
    ·have:=RV.all (m:=m.add H.bl.length (some xi) f.length) H.bl.length xi (be _ _ _ _);rw[zd,<- UL]at this;rw[UL]at this ⊢;exact this
    ·by_cases e:b'=H.bl.length
     ·subst e;obtain⟨_,e⟩:=Ki Ld;simp at e;subst e;exact .inl ⟨b,_,Rf⟩
     ·rw[Gf _ _ _ e]at Ld;exact .inl ⟨b',_,Ld⟩
   ·rw[if_neg (by rw[k2.1];exact TV)]at hv;have Nd:=Si.other (x:=xi) (fun b' s' bg e'=>(Lj bg).1 (hh.inj b' b xi (Lj bg).2 ae e' Rf)) .dead;have ze:=Nd.Ir (j2.append k2) (zl:=z'.length) hzw (ty:=V.vz (V.TF Hv xi) e r0);rw[hlen]at ze;have DR:(V.Ra Hv xi .dead).bl.length=Hv.bl.length:=by simp[V.Ra]
    rw[DR]at ze;obtain⟨m',e1,e2,e3,e4⟩:=ze;have g1:Oj m.top m Hv m (V.Ra Hv xi .dead):=⟨.refl (va _),fun x' Dk JR=>by rw[Ec,if_neg (fun e=>JR b 0 (by rw[<- e];exact Rf))],fun b' s' x' Ld=> .inl ⟨b',s',Ld⟩,by simp[V.Ra],rfl⟩;refine⟨_,_,?_,m',e1,e2,e3,g1.trans e4 (va _)⟩;rw[hv];simp only[Bu];rw[if_pos ⟨jaf,by simp only[V.Jj,i2'];rw[hzw]⟩,j2.1,k2.1,qd]
  ·rw[List.nil_append];simp only[Bb]at UL;have:=N7 Si rU k1 k2 (by simpa[UL]using h0.1) (by simpa[UL]using h0.2);rw[hlen]at this;exact this
 have vO:∀{y:UV},(y= .Xa\/y= .Ud)->((rowsOf H c x).bind fun f=>ask (decide (f.length * nb<=70368744177664)&&decide (f.length<9223372036854775808)) (K x H))=some out->(∀s,x≠ .str s)->
   ∃v H',K v H'=some out/\H'.wm=H.wm/\∀(m:Mp)(Hv:V.AH)(x' y':V.AV),RH m H Hv->RV m x x'->RV m y y'->∃a Nc,V.append A Hv ts x' y'=some (a,Nc)/\Jp m Hv v H' a Nc:=fun{y}hy h SL=>by
  simp only[aa]at h;obtain⟨f,hf,h⟩:=h;obtain⟨h0,h⟩:=Cd h;simp only[Va,decide_eq_true_eq]at h0;refine⟨x,H,h,rfl,fun m Hv x' y' hh oO BR=> ?_⟩;have Nx:Rn Hv y'=some []:=by rcases hy with rfl|rfl<;>cases BR<;>rfl
  obtain⟨xs,j1,j2⟩:=Dh hf hh oO;have j1':V.rowsOf Hv x'=some xs:=by
   cases x'<;>first|exact j1|skip
   cases oO with
   |str=>exact(SL _ rfl).elim
   |Sb=>simp[rowsOf]at hf
   |Bt _ _ _ ha=>simp at ha
   |Yf _ _ _ _ ha=>simp at ha
   |vu _ _ _ _ _ ha=>simp at ha
   |di _ _ ha=>simp at ha
  exact⟨x',Hv,by rw[Wo Hv x' y' xs [] j1' Nx (by simpa[j2.1]using h0.1) (by simpa[j2.1]using h0.2) (by simp)];rfl,.same hh oO⟩
 split at h
 ·rename_i b c' a l hdy;split at h
  case isFalse=>simp at h
  rename_i aj;simp only[aa]at h;obtain⟨⟨f,H0⟩,hX,h⟩:=h;obtain⟨h0,h⟩:=Cd h;simp only[Va,decide_eq_true_eq]at h0;obtain⟨rfl,hb,OE⟩:=rN hdy;have hX:=sN hX;refine⟨_,_,h,by rcases hX with⟨_,_,rfl⟩|⟨_,_,_,_,_,rfl⟩<;>rfl,fun m Hv x' y' hh oO BR=> ?_⟩;obtain⟨k0,k1,kx⟩:=Wd (s:=⟨[],[],H,0⟩) (sv:=⟨[],[],Hv⟩) hh hb;obtain⟨_,b0,_⟩:=hh.Vc b _ hb;have LR:live H b:=⟨_,hb,rfl⟩;cases BR with
  |Yf _ _ _ hl _=>rw[k0]at hl;simp at hl
  |all _ xb xB=>
   obtain⟨Pu,tyb,i2,i3,i4⟩:=kx xb xB;have i2':Hv.bl[xb]?=some (.cells Pu 1 tyb):=i2;have Nx:Rn Hv (.sl xb 0 (m.len b 0))=some (Pu.take (a::l).length):=by
    show V.rowsOf Hv (.sl xb 0 (m.len b 0))=_;simp only[V.rowsOf,i2'];rw[k0,if_pos (by omega)];simp
   have CR:(Pu.take (a::l).length).length=(a::l).length:=by rw[ic];omega
   have BR:∀r,r<(a::l).length->∃a',(Pu.take (a::l).length)[r]?=some [a']/\Il m Hv (m.ι b (r+1)) c' ((a::l).getD r []) a':=fun r hr=>by
    obtain⟨a',j1,j2⟩:=i4 r hr;exact⟨a',by rw[Db,if_pos hr];exact j1,j2⟩
   have kaf:∀r∈Pu.take (a::l).length,r.length=width c:=fun r hr=>by
    obtain⟨i,hi⟩:=me hr;have hil:=Za hi;rw[CR]at hil;obtain⟨a',j1,_⟩:=BR i hil;rw[hi]at j1;simp at j1;subst j1;rw[aj];rfl
   have qU:z'.length=1:=by rw[hzw,aj];rfl
   have hFy:∀{H0:UH}{CU:V.AH},(∀{b'},live H0 b'->b'≠b/\live H b')->CU.wm=Hv.wm->∀r x,m.ι b (r+1)=some x->y7 m H0 CU x:=fun{H0 CU}Lj ag r x hx=>⟨⟨b,_,hx⟩,by rw[ag];exact hh.wm b x hx OE,fun b' s' bg e'=>(Lj bg).1 (hh.inj b' b x (Lj bg).2 LR e' hx)⟩
   have hyi:∀r r' x,m.ι b (r+1)=some x->m.ι b (r'+1)=some x->r=r':=fun r r' x e e'=>by have:=(hh.pn b b x LR LR e e').2;omega
   have TV:¬(Pu.take (a::l).length).length=0:=by rw[CR];simp
   have onN:∀{H0:UH},RH m H0 Hv->(∀{b'},live H0 b'->b'≠b/\live H b')->(x'= .Xa\/x'= .Ud)->(a::l).length * nb<=70368744177664->(a::l).length<9223372036854775808->∃a' Nc,V.append A Hv ts x' (.sl xb 0 (m.len b 0))=some (a',Nc)/\Jp m Hv (.all H0.bl.length) (push H0 (.deep c' ([]++a::l))) a' Nc:=fun{H0}v8 Lj rU q1 q2=>by
    have Lr:V.rowsOf Hv x'=some []:=by rcases rU with rfl|rfl<;>rfl
    have hv:=Wo Hv x' _ [] _ Lr Nx (by rw[CR];simpa using q1) (by rw[CR];simpa using q2) kaf;rw[if_neg TV]at hv;have hj:=CF (f:=[]) (g:=a::l) (xs:=[]) (ys:=Pu.take (a::l).length) (Fx:=fun _=>none) (Fy:=fun r=>m.ι b (r+1)) (ty:=some (e,1)) v8 rfl CR (fun r x hr=>by simp at hr) (hFy Lj rfl) (fun r r' x hr=>by simp at hr) hyi (fun r r' x hr=>by simp at hr) (fun r hr=>(b0 r).2 hr) (fun r hr=>by simp at hr) BR;refine⟨.sl Hv.bl.length 0 ([]++a::l).length,V.push Hv (.cells ([]++Pu.take (a::l).length) 1 (some (e,1))),?_,hj⟩;rw[hv];rcases rU with rfl|rfl<;>simp only[Bu,CR,qU,List.nil_append]
   rcases hX with⟨rU,rfl,rfl⟩|⟨b1,rfl,ep,Uc,laf,rfl⟩
   ·have taj:x'= .Xa\/x'= .Ud:=by rcases rU with rfl|rfl<;>cases oO<;>simp
    exact onN (hh.kill b) (fun h=>by rcases sg h with⟨_,h'⟩|h';simp[Zd]at h';exact h') taj (by simpa using h0.1) (by simpa using h0.2)
   ·have kJ:live H b1:=⟨_,ep,rfl⟩;have v8:=(hh.kill b1).kill b;have Lj:∀{b'},live (Ra (Ra H b1 .dead) b .dead) b'->b'≠b/\b'≠b1/\live H b':=fun h=>by
     rcases sg h with⟨_,h'⟩|⟨h1,h'⟩
     ·simp[Zd]at h'
     ·rcases sg h' with⟨_,h'⟩|⟨h2,h'⟩
      ·simp[Zd]at h'
      ·exact⟨h1,h2,h'⟩
    obtain⟨q0,q1,qx⟩:=Wd (s:=⟨[],[],H,0⟩) (sv:=⟨[],[],Hv⟩) hh ep;cases oO with
    |Yf _ _ _ hl ha=>
     have hf:f=[]:=by rw[q0]at hl;exact Ja.1 hl
     subst hf;exact onN v8 (fun h=>⟨(Lj h).1,(Lj h).2.2⟩) ha (by simpa using h0.1) (by simpa using h0.2)
    |all _ x1 xj=>
     obtain⟨Tm,ty1,p2,p3,p4⟩:=qx x1 xj;have p2':Hv.bl[x1]?=some (.cells Tm 1 ty1):=p2;have Lr:V.rowsOf Hv (.sl x1 0 (m.len b1 0))=some (Tm.take f.length):=by
      simp only[V.rowsOf,p2'];rw[q0,if_pos (by omega)];simp
     have jI:(Tm.take f.length).length=f.length:=by rw[ic];omega
     have hv:=Wo Hv (.sl x1 0 (m.len b1 0)) _ _ _ Lr Nx (by rw[jI,CR];exact h0.1) (by rw[jI,CR];exact h0.2) kaf;rw[if_neg TV]at hv;have GV:=hh.wm b1 x1 xj laf;have Nd:=v8.other (x:=x1) (fun b' s' bg e'=>(Lj bg).2.1 (hh.inj b' b1 x1 (Lj bg).2.2 kJ e' xj)) .dead;have jc:∀{b' s':Nat}{x:Nat},m.ι b' (s'+1)=some x->(b'=b\/b'=b1)->(V.Ra Hv x1 .dead).bl[x]?=Hv.bl[x]?:=fun{b' s' x}e hbb=>by
      rw[Ec,if_neg]
      rintro rfl
      rcases hbb with rfl|rfl
      ·exact Uc ((hh.inj b' b1 x1 LR kJ e xj).symm)
      ·have:=(hh.pn b' b' x1 kJ kJ e xj).2;omega
     have hj:=CF (f:=f) (g:=a::l) (xs:=Tm.take f.length) (ys:=Pu.take (a::l).length) (Fx:=fun r=>m.ι b1 (r+1)) (Fy:=fun r=>m.ι b (r+1)) (ty:=V.vz (V.TF Hv x1) e 0) Nd jI CR
      (fun r x _ hx=>⟨⟨b1,_,hx⟩,hh.wm b1 x hx laf,fun b' s' bg e'=>(Lj bg).2.1 (hh.inj b' b1 x (Lj bg).2.2 kJ e' hx)⟩)
      (hFy (fun h=>⟨(Lj h).1,(Lj h).2.2⟩) rfl) (fun r r' x _ _ e e'=>by have:=(hh.pn b1 b1 x kJ kJ e e').2;omega) hyi (fun r r' x _ e e'=>Uc (hh.inj b1 b x kJ LR e e')) (fun r hr=>(b0 r).2 hr)
      (fun r hr=>by
       obtain⟨a',j1,j2⟩:=p4 r hr;exact⟨a',by rw[Db,if_pos hr];exact j1,j2.keep (fun _ _ _ h=>h) fun x hx=>jc hx (.inr rfl)⟩)
      (fun r hr=>by
       obtain⟨a',j1,j2⟩:=BR r hr;exact⟨a',j1,j2.keep (fun _ _ _ h=>h) fun x hx=>jc hx (.inl rfl)⟩)
     have DR:(V.Ra Hv x1 .dead).bl.length=Hv.bl.length:=by simp[V.Ra]
     rw[DR]at hj;obtain⟨m',e1,e2,e3,e4⟩:=hj;have g1:Oj m.top m Hv m (V.Ra Hv x1 .dead):=⟨.refl (va _),fun x' Dk JR=>by rw[Ec,if_neg (fun e=>JR b1 0 (by rw[<- e];exact xj))],fun b' s' x' Ld=> .inl ⟨b',s',Ld⟩,by simp[V.Ra],rfl⟩;refine⟨_,_,?_,m',e1,e2,e3,g1.trans e4 (va _)⟩;rw[hv];simp only[Bu];rw[if_pos ⟨GV,by simp only[V.Jj,p2'];rw[qU]⟩,jI,CR,qU,qd]
 rename_i hdy;split at h
 ·split at h
  ·exact yj (.inl rfl) (.inl rfl) h
  ·exact yj (.inl rfl) (.inr rfl) h
  ·split at h
   ·simp at h
   ·rename_i SL;exact vO (.inl rfl) h fun s e=>SL s e
 ·split at h
  ·exact yj (.inr rfl) (.inl rfl) h
  ·exact yj (.inr rfl) (.inr rfl) h
  ·split at h
   ·simp at h
   ·rename_i SL;exact vO (.inr rfl) h fun s e=>SL s e
 ·simp only[aa]at h;obtain⟨g,hg,h⟩:=h;split at h
  ·exact U4 (.inl rfl) hg h
  ·exact U4 (.inr rfl) hg h
  ·rename_i b r0 n0;split at h
   ·simp at h
   rename_i a g';split at h
   case isFalse=>simp at h
   rename_i hw;simp only[aa]at h;obtain⟨f,hf,h⟩:=h;have hf0:=hf;simp only[rowsOf]at hf;split at hf
   case h_2=>simp at hf
   rename_i c' l hb;split at hf
   case isFalse=>simp at hf
   rename_i hc;subst hc;simp at hf;subst hf;refine Ip (r0:=r0+1) (fun e=>by simp at e) hw hf0 hg (fun{m Hv x'}hh hx=> ?_) ⟨_,_,hb,rfl⟩ h;obtain⟨k0,_⟩:=Cc (s:=⟨[],[],H,0⟩) (sv:=⟨[],[],Hv⟩) hh hb;cases hx with
   |sl _ _ _ xi Rf hle=>exact⟨by rw[nk];simp;omega,.inl ⟨xi,Rf,rfl⟩⟩
   |Bt _ _ _ ha=>exact⟨by rw[nk];simp,.inr ⟨ha,by rw[nk];simp⟩⟩
  ·rename_i b n0 _ _;split at h
   case isFalse=>simp at h
   rename_i hw;simp only[aa]at h;obtain⟨f,hf,h⟩:=h;have hf0:=hf;simp only[rowsOf]at hf;split at hf
   case h_2=>simp at hf
   rename_i c' l hb;split at hf
   case isFalse=>simp at hf
   rename_i hc;subst hc;simp at hf;subst hf;refine Ip (fun _=>rfl) hw hf0 hg (fun{m Hv x'}hh hx=> ?_) ⟨_,_,hb,rfl⟩ h;obtain⟨k0,_⟩:=Cc (s:=⟨[],[],H,0⟩) (sv:=⟨[],[],Hv⟩) hh hb;cases hx with
   |sl _ _ _ xi Rf hle=>exact⟨by rw[nk];simp;omega,.inl ⟨xi,Rf,rfl⟩⟩
   |Bt _ _ _ ha=>exact⟨by rw[nk];simp,.inr ⟨ha,by rw[nk];simp⟩⟩
  ·rename_i b _ _;split at h
   case isFalse=>simp at h
   rename_i hw;simp only[aa]at h;obtain⟨f,hf,h⟩:=h;have hf0:=hf;simp only[rowsOf]at hf;split at hf
   case h_2=>simp at hf
   rename_i c' l hb;split at hf
   case isFalse=>simp at hf
   rename_i hc;subst hc;simp at hf;subst hf;refine Ip (fun _=>rfl) hw hf0 hg (fun{m Hv x'}hh hx=> ?_) ⟨_,_,hb,rfl⟩ h;obtain⟨k0,_⟩:=Cc (s:=⟨[],[],H,0⟩) (sv:=⟨[],[],Hv⟩) hh hb;cases hx with
   |all _ xi Rf=>exact⟨rfl,.inl ⟨xi,Rf,by rw[k0]⟩⟩
   |Yf _ _ _ hl ha=>exact⟨rfl,.inr ⟨ha,Ja.1 (by omega)⟩⟩
  ·simp at h
end
end Go.U
