/- A second evaluator, over rows of Lean values, and that it is right over the first. -/
import Derived.Test.YtjenflkegbmkkaaGreatDoorA1
import Derived.Test.YtjenflkegbmkkaaGreatDoorA4
set_option linter.unusedVariables false
set_option linter.unusedSimpArgs false
set_option linter.unusedSectionVars false
open Bool renaming and_eq_true→Ia
open List renaming replicate→Ja,range→ua,mem_append→Tn,mem_of_getElem?→jb,all_eq_true→Yb,getElem?_map→Ob,getElem?_eq_none→mb,getElem?_eq_getElem→ya,getElem?_drop→Dc,getElem?_take→Ab,getElem?_append_left→Fa,getElem?_append_right→Ka,getElem?_set→Kb,mem_cons→oc,getElem?_of_mem→Yd,append_assoc→od,getD_eq_getElem?_getD→Ea,length_set→fe,getElem?_replicate→Ei,length→fa,length_replicate→Ji,length_map→Ec,length_eq_zero_iff→Da,length_take→dc,length_append→Ud,append_nil→Qm,length_nil→ek
open Nat renaming le_refl→oa,le_trans→Ib,lt_of_lt_of_le→Za,lt_or_ge→Rb,zero_add→de,le_of_eq→Ch,add_zero→td
open Option renaming map_eq_some_iff→ia,bind_eq_some_iff→aa,bind_some→da,map_some→Jc
open Option.some renaming injEq→yc
namespace Go.U
open Go
inductive CT where
 |bool
 |int (k:IntKind)
 |str
 |slice (c:CT)
 |pair (a b:CT)
 deriving DecidableEq,Inhabited
def Eb:CT->Type
 | .bool=>Bool
 | .int _=>Int
 | .str=>ByteArray
 | .slice c=>List (Eb c)
 | .pair a b=>Eb a×Eb b
def width:CT->Nat
 | .pair a b=>width a+width b
 |_=>1
def FR:(c:CT)->Eb c
 | .bool=>false
 | .int _=>(0:Int)
 | .str=>ByteArray.empty
 | .slice _=>[]
 | .pair a b=>(FR a,FR b)
inductive KT where
 |int (k:IntKind)
 |str
 deriving DecidableEq,Inhabited
def jd:KT->Type
 | .int _=>Int
 | .str=>ByteArray
def HG:(k:KT)->jd k->jd k->Bool
 | .int _=>fun (a b:Int)=>decide (a=b)
 | .str=>fun (a b:ByteArray)=>a==b
inductive UV where
 |Qb
 |bool (b:Bool)
 |int (k:IntKind) (n:Int)
 |str (s:ByteArray)
 |De
 |ptr (b c:Nat)
 |Ml (b r c:Nat)
 |Bd (row:List UV)
 |Wa
 |Kd
 |sl (b r n:Nat)
 |all (b:Nat)
 |cr (b r:Nat)
 |Ao (b r j c:Nat)
 |lit (c:CT) (l:List (Eb c))
 |yf
 |mp (b:Nat)
 |Te
 |fn (f:FuncId) (Ug:List UV)
 |yl (b:Nat)
 |Cg
 |agg (cells:List UV)
 |Rc (vs:List UV)
 deriving Inhabited
inductive UB where
 |dead
 |fb (row:List UV)
 |cells (c:CT) (l:List (Eb c))
 |deep (c:CT) (l:List (List (Eb c)))
 |Nj (k:KT) (es:List (jd k×UV))
 |ah (k:KT) (g:Bool) (c:CT) (l:List (jd k×Eb c))
 |loop (id:Nat) (env:List (Nat×UV)) (st:LoopState) (pe:V.Ex)
 |Fl (q:UV)
 |ko (s:ByteArray)
 deriving Inhabited
structure RFn where
 n:Nat
 ps:List Nat
 assign:Code
 body:Code
class sB where
 rf:Nat->RFn
 bT:TypeId
 uT:TypeId
structure UH where
 bl:List UB
 wm:Nat
inductive US where
 |v (a:UV)
 |loc (i c:Nat)
structure St where
 e:List (Nat×US)
 F:List (List UV)
 H:UH
 base:Nat
def fN {α:Type} (n:Nat) (k:Nat->α):α:=match n with|0=>k 0|m+1=>k (m+1)
def fL {α β:Type} (l:List β) (k:List β->α):α:=match l with|[]=>k []|x::xs=>fL xs fun xs=>k (x::xs)
def fV {α:Type} (v:UV) (k:UV->α):α:=
 match v with
 | .Qb=>k .Qb
 | .bool b=>k (.bool b)
 | .int t n=>k (.int t n)
 | .str s=>k (.str s)
 | .De=>k .De
 | .ptr b c=>fN b fun b=>fN c fun c=>k (.ptr b c)
 | .Ml b r c=>fN b fun b=>fN c fun c=>k (.Ml b r c)
 | .Bd row=>fL row fun row=>k (.Bd row)
 | .Wa=>k .Wa
 | .Kd=>k .Kd
 | .sl b r n=>fN b fun b=>k (.sl b r n)
 | .all b=>fN b fun b=>k (.all b)
 | .cr b r=>fN b fun b=>k (.cr b r)
 | .Ao b r j c=>fN b fun b=>fN c fun c=>k (.Ao b r j c)
 | .lit c l=>k (.lit c l)
 | .yf=>k .yf
 | .mp b=>fN b fun b=>k (.mp b)
 | .Te=>k .Te
 | .fn f cs=>fL cs fun cs=>k (.fn f cs)
 | .yl b=>fN b fun b=>k (.yl b)
 | .Cg=>k .Cg
 | .agg cs=>fL cs fun cs=>k (.agg cs)
 | .Rc vs=>fL vs fun vs=>k (.Rc vs)
def fU {α:Type} (v:US) (k:US->α):α:=
 match v with
 | .v a=>fV a fun a=>k (.v a)
 | .loc i c=>fN i fun i=>fN c fun c=>k (.loc i c)
def fSt {α:Type} (s:St) (k:St->α):α:=
 match s with
 |⟨e,F,⟨bl,wm⟩,base⟩=>fL F fun F=>fL bl fun bl=>fN wm fun wm=>fN base fun base=>(match e with|[]=>k ⟨[],F,⟨bl,wm⟩,base⟩|x::l=>k ⟨x::l,F,⟨bl,wm⟩,base⟩)
theorem uU {α:Type} (n:Nat) (k:Nat->α):fN n k=k n:=by cases n<;>rfl
theorem mD {α β:Type}:∀ (l:List β) (k:List β->α),fL l k=k l
 |[],_=>rfl
 |x::xs,k=>by simp only [fL,mD xs]
theorem Pad {α:Type} (v:UV) (k:UV->α):fV v k=k v:=by cases v<;>simp only [fV,uU,mD]
theorem U5 {α:Type} (v:US) (k:US->α):fU v k=k v:=by cases v<;>simp only [fU,Pad,uU]
theorem tU {α:Type} (s:St) (k:St->α):fSt s k=k s:=by
 obtain ⟨e,F,⟨bl,wm⟩,base⟩:=s;simp only [fSt,uU,mD];cases e<;>rfl
def enc:(c:CT)->Eb c->List UV
 | .bool,b=>[.bool b]
 | .int k,n=>[.int k n]
 | .str,s=>[.str s]
 | .slice c,l=>[.lit c l]
 | .pair a b,(x,y)=>enc a x++enc b y
def dec:(c:CT)->List UV->Option (Eb c×List UV)
 | .bool,.bool b::r=>some (b,r)
 | .int k,.int k' n::r=>if k'=k then some (n,r) else none
 | .str,.str s::r=>some (s,r)
 | .slice c,.lit c' l::r=>if h:c'=c then some (h ▸ l,r) else none
 | .slice _,.Wa::r=>some ([],r)
 | .slice _,.Kd::r=>some ([],r)
 | .pair a b,cs=>(dec a cs).bind fun (x,r)=>(dec b r).bind fun (y,r')=>some ((x,y),r')
 |_,_=>none
def oG (c:CT) (cs:List UV):Option (Eb c):=
 match dec c cs with
 |some (x,[])=>some x
 |_=>none
def DY (c:CT):List (List UV)->Option (List (Eb c))
 |[]=>some []
 |r::rs=>(oG c r).bind fun x=>(DY c rs).bind fun l=>some (x::l)
def vw (c:CT) (l:List (Eb c)):Nat->List UV:=fun i=>enc c (l.getD i (FR c))
def YL (s:ByteArray):List Int:=s.data.toList.map fun b=>(b.toNat:Int)
def Nae (l:List Int):ByteArray:=⟨(l.map fun n=>UInt8.ofNat n.toNat).toArray⟩
def Vi {α:Type} (r n:Nat) (l:List α):List α:=
 match r with
 |0=>l.take n
 |r+1=>(l.drop (r+1)).take n
def yy {α:Type} (r m:Nat) (g l:List α):List α:=l.take r++(g.take m++l.drop (r+m))
def valOf (g:Bool) (c:CT) (x:Eb c):UV:=
 match g,enc c x with
 |true,cs=> .agg cs
 |false,[v]=>v
 |_,_=> .Qb
def keyOf? (k:KT):UV->Option (jd k):=
 match k with
 | .int k=>fun| .int k' n=>if k'=k then some n else none|_=>none
 | .str=>fun| .str s=>some s|_=>none
def uA {k:KT} {α:Type} (i:jd k) (l:List (jd k×α)):Bool:=l.any fun p=>HG k i p.1
def Ps {k:KT} {α:Type} (i:jd k) (d:α):List (jd k×α)->α
 |[]=>d
 |(j,x)::l=>cond (HG k i j) x (Ps i d l)
def Lv {k:KT} {α:Type} (i:jd k) (x:α):List (jd k×α)->List (jd k×α)
 |[]=>[(i,x)]
 |(j,y)::l=>cond (HG k i j) ((i,x)::l) ((j,y)::Lv i x l)
def xy {k:KT} {α:Type} (i:jd k):List (jd k×α)->List (jd k×α)
 |[]=>[]
 |(j,y)::l=>cond (HG k i j) l ((j,y)::xy i l)
def SR (r k:Nat):Nat:=match r with|0=>k|_=>r+k
def closed:Nat->UV->Bool
 |0,_=>false
 |_+1,.ptr .. |_+1,.Ml .. |_+1,.sl .. |_+1,.all _|_+1,.cr .. |_+1,.Ao .. |_+1,.mp _|_+1,.yl _|_+1,.Qb|_+1,.agg _|_+1,.Rc _=>false
 |d+1,.fn _ cs=>cs.all (closed d)
 |_+1,_=>true
def Nb:Nat->UV->Bool
 |0,_=>false
 |d+1,.agg cs=>cs.all (Nb d)
 |d+1,.Rc cs=>cs.all (Nb d)
 |_+1,x=>closed 8 x
def get:List (Nat×US)->Nat->US
 |[],_=> .v .Qb
 |(j,x)::e,i=>if i=j then x else get e i
def UV.cells?:UV->Option (List UV)
 | .agg cs=>some cs
 | .Qb| .Rc _=>none
 |x=>some [x]
def Zi:Value->Option UV
 | .bool b=>some (.bool b)
 | .int k n=>some (.int k n)
 | .string s=>some (.str s)
 | .pointer none=>some .De
 | .slice none 0 0=>some .Wa
 | .map none=>some .yf
 | .nilFunc=>some .Te
 | .nilIface=>some .Cg
 |_=>none
def Lc:List Value->Option (List UV)
 |[]=>some []
 |v::vs=>(Zi v).bind fun x=>(Lc vs).bind fun xs=>some (x::xs)
def ask {X:Type} (b:Bool) (x:Option X):Option X:=cond b x none
section
variable (A:V.oh) (La:Nat->Option (List UV))
def zero (t:TypeId):Option (List UV):=
 match (A.P.info? t).map (·.zero) with
 |some (some v)=>Lc v.cells.toList
 |_=>none
def zeroV (t:TypeId):Option UV:=
 match (A.P.info? t).map (·.zero) with
 |some (some (Value.agg cs))=>(Lc cs.toList).map UV.agg
 |some (some v)=>Zi v
 |_=>none
def operand (e:List (Nat×US)):Operand->Option US
 | .tmp t=>some (get e t)
 | .const v=>(Zi v).map .v
 | .global g=>(La g).map fun row=> .v (.Bd row)
 | .func f=>some (.v (.fn f []))
def val (e:List (Nat×US)) (x:Operand):Option UV:=
 match operand La e x with
 |some (.v .Qb)=>none
 |some (.v a)=>some a
 |_=>none
def Pg (e:List (Nat×US)):List Operand->Option (List UV)
 |[]=>some []
 |x::xs=>(val La e x).bind fun a=>(Pg e xs).bind fun l=>some (a::l)
def kf (row:List UV) (c:Nat) (new:List UV):Option (List UV):=
 if c+new.length<=row.length then some (row.take c++(new++row.drop (c+new.length))) else none
def part (t:TypeId) (row:List UV) (c:Nat):Option UV:=
 (V.isAgg A t).bind fun
  |true=>(V.size A t).bind fun n=>if c+n<=row.length then some (.agg ((row.drop c).take n)) else none
  |false=>row[c]?
def Ma (H:UH) (b:Nat) (x:UB):UH:={ H with bl:=H.bl.set b x }
def push (H:UH) (x:UB):UH:={ H with bl:=H.bl++[x] }
def load (s:St) (t:TypeId):US->Option UV
 | .loc i c=>s.F[i]?.bind fun row=>part A t row c
 | .v (.ptr b c)=>match s.H.bl[b]? with|some (.fb row)=>part A t row c|_=>none
 | .v (.Ml b r c)=>match s.H.bl[b]? with|some (.cells ct l)=>part A t (vw ct l r) c|some (.deep _ _)=>part A t [.cr b r] c|_=>none
 | .v (.Ao b r j c)=>match s.H.bl[b]? with|some (.deep ct l)=>part A t (vw ct (l.getD r []) j) c|_=>none
 | .v (.Bd row)=>part A t row 0
 |_=>none
def store (s:St) (t:TypeId) (p:US) (x:UV):Option St:=
 x.cells?.bind fun cs=>(V.size A t).bind fun n=>
  if cs.length=n then
   match p with
   | .loc i c=>s.F[i]?.bind fun row=>(kf row c cs).bind fun Jb=>fL Jb fun Jb=>some { s with F:=s.F.set i Jb }
   | .v (.ptr b c)=>
    match s.H.bl[b]? with
    |some (.fb row)=>if s.H.wm<=b then (kf row c cs).bind fun Jb=>fL Jb fun Jb=>some { s with H:=Ma s.H b (.fb Jb) } else none
    |_=>none
   | .v (.Ml b r c)=>
    match s.H.bl[b]? with
    |some (.cells ct l)=>if s.H.wm<=b then (kf (vw ct l r) c cs).bind fun Jb=>(oG ct Jb).bind fun x=>some { s with H:=Ma s.H b (.cells ct (l.set r x)) } else none
    |_=>none
   | .v (.Ao b r j c)=>
    match s.H.bl[b]? with
    |some (.deep ct l)=>if s.H.wm<=b then (kf (vw ct (l.getD r []) j) c cs).bind fun Jb=>(oG ct Jb).bind fun x=>some { s with H:=Ma s.H b (.deep ct (l.set r ((l.getD r []).set j x))) } else none
    |_=>none
   |_=>none
  else none
def ug (n:Nat):US->Option US
 | .loc i c=>some (.loc i (c+n))
 | .v (.ptr b c)=>some (.v (.ptr b (c+n)))
 | .v (.Ml b r c)=>some (.v (.Ml b r (c+n)))
 | .v (.Ao b r j c)=>some (.v (.Ao b r j (c+n)))
 | .v (.Bd row)=>some (.v (.Bd (row.drop n)))
 |_=>none
variable {X:Type}
def cases (i:Int) (K:Nat->Option X):Nat->Nat->Option X
 |0,_=>none
 |m+1,j=>cond (decide (i=(j:Int))) (K j) (cases i K m (j+1))
def indexAddr (H:UH) (t:TypeId) (x:US) (i:Int) (K:US->Option X):Option X:=
 match A.P.underlying t with
 |some (.array n e)=>(V.size A e).bind fun sz=>cases i (fun j=>(ug (j * sz) x).bind K) n 0
 |some (.slice e)=>
  match x with
  | .v (.sl b r n)=>
   match H.bl[b]? with
   |some (.cells c _)=>if V.size A e=some (width c) then ask (V.va i n) (K (.v (.Ml b (SR r i.toNat) 0))) else none
   |some (.deep _ _)=>if V.size A e=some 1 then ask (V.va i n) (K (.v (.Ml b (SR r i.toNat) 0))) else none
   |_=>none
  | .v (.all b)=>
   match H.bl[b]? with
   |some (.cells c l)=>if V.size A e=some (width c) then ask (V.va i l.length) (K (.v (.Ml b i.toNat 0))) else none
   |some (.deep _ l)=>if V.size A e=some 1 then ask (V.va i l.length) (K (.v (.Ml b i.toNat 0))) else none
   |_=>none
  | .v (.cr b r)=>
   match H.bl[b]? with
   |some (.deep c l)=>if V.size A e=some (width c) then ask (V.va i (l.getD r []).length) (K (.v (.Ao b r i.toNat 0))) else none
   |_=>none
  | .v (.lit c l)=>if V.size A e=some (width c) then ask (V.va i l.length) (K (.v (.Bd (vw c l i.toNat)))) else none
  |_=>none
 |_=>none
def index (t:TypeId) (x:UV) (i:Int) (K:UV->Option X):Option X:=
 match A.P.underlying t,x with
 |some (.array n e),.agg cs=>(V.size A e).bind fun sz=>cases i (fun j=>(part A e cs (j * sz)).bind K) n 0
 |some .string,.str s=>ask (V.va i s.size) (K (.int .u8 (s[i.toNat]!.toNat:Int)))
 |_,_=>none
def Vf (place:Nat->Option (Nat×Nat)) (row:List UV):List (Nat×UV)->Option (List UV)
 |[]=>some row
 |(i,x)::rest=>
  (place i).bind fun (off,n)=>x.cells?.bind fun cs=>
   if cs.length=n then (kf row off cs).bind fun Jb=>Vf place Jb rest else none
def parts (e:List (Nat×US)):List (Nat×Operand)->Option (List (Nat×UV))
 |[]=>some []
 |(i,x)::xs=>(val La e x).bind fun a=>(parts e xs).bind fun l=>some ((i,a)::l)
def build (t:TypeId) (ps:List (Nat×UV)):Option UV:=
 (zero A t).bind fun z=>
  match A.P.underlying t with
  |some (.struct fs)=>if fs.toList.all fun f=>(V.size A f.type).isSome then (Vf (fun i=>fs[i]?.bind fun f=>(V.size A f.type).map fun n=>(f.offset,n)) z ps).map .agg else none
  |some (.array _ e)=>(V.size A e).bind fun n=>(Vf (fun i=>some (i * n,n)) z ps).map .agg
  |_=>none
def EY:Nat->TypeId->Option CT
  |0,_=>none
  |d+1,t=>
   match A.P.underlying t with
   |some .bool=>some .bool
   |some (.int k)=>some (.int k)
   |some .string=>some .str
   |some (.slice e)=>(EY d e).map .slice
   |some (.struct fs)=>dB (fs.toList.map fun f=>EY d f.type)
   |some (.array n e)=>dB (Ja n (EY d e))
   |_=>none
 where
  dB:List (Option CT)->Option CT
   |[]=>none
   |[c]=>c
   |c::cs=>c.bind fun c=>(dB cs).map fun c'=> .pair c c'
def elemOf (t:TypeId):Option ((c:CT)×Eb c):=
 (V.elem? A t).bind fun e=>(zero A e).bind fun z=>(EY A 16 e).bind fun c=>(oG c z).bind fun x=>
  if 0<z.length/\V.size A e=some z.length/\width c=z.length then some ⟨c,x⟩ else none
def He (rows:List (List UV)):List (Nat×UV)->Option (List (List UV))
 |[]=>some rows
 |(i,x)::rest=>x.cells?.bind fun cs=>rows[i]?.bind fun row=>if cs.length=row.length then He (rows.set i cs) rest else none
def mh (c:CT):Nat->List (Nat×UV)->UH->Option (List (List (Eb c))×UH)
 |_,[],H=>some ([],H)
 |i,(j,x)::ps,H=>if j=i then
  match x with
  | .Wa| .Kd=>(mh c (i+1) ps H).bind fun (l,H)=>some ([]::l,H)
  | .all b=>
   match H.bl[b]? with
   |some (.cells c' l)=>if h:c'=c/\H.wm<=b then (mh c (i+1) ps (Ma H b .dead)).bind fun (l',H)=>some ((h.1 ▸ l)::l',H) else none
   |_=>none
  |_=>none
  else none
def isAll:UV->Bool
 | .all _=>true
 |_=>false
def PL (H:UH) (t:TypeId) (len:Nat) (ps:List (Nat×UV)):Option (UV×UH):=
 match elemOf A t with
 |some ⟨.slice c,_⟩=>if ps.length=len/\ps.any (fun p=>isAll p.2)=true then (mh c 0 ps H).bind fun (l,H)=>some (.all H.bl.length,push H (.deep c l)) else none
 |_=>none
def buildSlice (H:UH) (t:TypeId) (len:Nat) (ps:List (Nat×UV)):Option (UV×UH):=
 (V.elem? A t).bind fun e=>(zero A e).bind fun z=>(elemOf A t).bind fun ⟨c,_⟩=>
  if len * z.length<=16777216 then
   if len=0/\ps.length=0 then some (.Kd,H) else
    match PL A H t len ps with
    |some r=>some r
    |none=>(He (Ja len z) ps).bind fun rows=>(DY c rows).bind fun l=>some (.all H.bl.length,push H (.cells c l))
  else none
def makeSlice (H:UH) (t:TypeId) (len cap:UV) (K:UV->UH->Option X):Option X:=
 match len,cap with
 | .int _ l,.int _ c=>
  (V.elem? A t).bind fun e=>(elemOf A t).bind fun ⟨ct,x⟩=>(V.bytes A e).bind fun n=>
   ask (decide (0<=l)&&decide (l<=c)&&decide (n * c<=70368744177664)&&decide (c<9223372036854775808))
    (K (.all H.bl.length) (push H (.cells ct (Ja l.toNat x))))
 |_,_=>none
def rowsOf (H:UH) (c:CT):UV->Option (List (Eb c))
 | .lit c' l=>if h:c'=c then some (h ▸ l) else none
 | .all b=>match H.bl[b]? with|some (.cells c' l)=>if h:c'=c then some (h ▸ l) else none|_=>none
 | .sl b r n=>match H.bl[b]? with|some (.cells c' l)=>if h:c'=c then some (Vi r n (h ▸ l)) else none|_=>none
 | .cr b r=>match H.bl[b]? with|some (.deep c' l)=>if h:c'=c then some (h ▸ l.getD r []) else none|_=>none
 | .str s=>if h:CT.int .u8=c then some (h ▸ (YL s:List (Eb (.int .u8)))) else none
 |_=>none
def AY (H:UH):UV->Option (Nat×(c:CT)×List (Eb c)×List (List (Eb c)))
 | .all b=>match H.bl[b]? with|some (.deep c (a::l))=>if H.wm<=b then some (b,⟨c,a,l⟩) else none|_=>none
 |_=>none
def BY (H:UH) (c:CT) (b:Nat):UV->Option (List (List (Eb c))×UH)
 | .Wa| .Kd=>some ([],Ma H b .dead)
 | .all b1=>match H.bl[b1]? with|some (.deep c' l)=>if h:c'=c/\b1≠b/\H.wm<=b1 then some (h.1 ▸ l,Ma (Ma H b1 .dead) b .dead) else none|_=>none
 |_=>none
def append (H:UH) (argTypes:Array TypeId) (x y:UV) (K:UV->UH->Option X):Option X:=
 argTypes[0]?.bind fun t=>(V.elem? A t).bind fun e=>(elemOf A t).bind fun ⟨c,_⟩=>(V.bytes A e).bind fun n=>
  (match argTypes[1]? with
   |some u=>(match A.P.underlying u with|some (.int _)=>none|some _=>some ()|none=>none)
   |none=>some ()).bind fun _=>
   match AY H y with
   |some (b,⟨c',a,l⟩)=>if c=CT.slice c' then (BY H c' b x).bind fun (f,H0)=>ask (decide ((f.length+(a::l).length) * n<=70368744177664)&&decide (f.length+(a::l).length<9223372036854775808)) (K (.all H0.bl.length) (push H0 (.deep c' (f++a::l)))) else none
   |none=>
   match y with
   | .Wa| .Kd=>match x with| .Wa| .Kd=>K x H|x=>match x with| .str _=>none|x=>(rowsOf H c x).bind fun f=>ask (decide (f.length * n<=70368744177664)&&decide (f.length<9223372036854775808)) (K x H)
   |y=>
    (rowsOf H c y).bind fun g=>
     match x with
     | .Wa| .Kd=>ask (decide (g.length * n<=70368744177664)&&decide (g.length<9223372036854775808)) (K (.all H.bl.length) (push H (.cells c g)))
     | .sl b (r+1) m=>
      match g with
      |[]=>none
      |a::g'=>
      if H.wm<=b then
       (rowsOf H c (.sl b (r+1) m)).bind fun f=>
        ask (decide ((m+(a::g').length) * n<=70368744177664)&&decide (m+(a::g').length<9223372036854775808)) (K (.all H.bl.length) (push (Ma H b .dead) (.cells c (f++(a::g')))))
      else none
     | .sl b 0 m=>
      if H.wm<=b then
       (rowsOf H c (.sl b 0 m)).bind fun f=>
        ask (decide ((m+g.length) * n<=70368744177664)&&decide (m+g.length<9223372036854775808)) (K (.all H.bl.length) (push (Ma H b .dead) (.cells c (f++g))))
      else none
     | .all b=>
      if H.wm<=b then
       (rowsOf H c (.all b)).bind fun f=>
        ask (decide ((f.length+g.length) * n<=70368744177664)&&decide (f.length+g.length<9223372036854775808)) (K (.all H.bl.length) (push (Ma H b .dead) (.cells c (f++g))))
      else none
     |_=>none
def slice (H:UH) (t:TypeId) (x:UV) (lo hi:Option Int) (K:UV->Option X):Option X:=
 match A.P.underlying t,x with
 |some .string,.str s=>ask (decide (0<=lo.getD 0)&&decide (lo.getD 0<=hi.getD s.size)&&decide (hi.getD s.size<=s.size)) (K (.str (s.extract (lo.getD 0).toNat (hi.getD s.size).toNat)))
 |some (.slice e),.lit c l=>
  if V.size A e=some (width c) then
   match hi with
   |none=>ask (decide (0<=lo.getD 0)&&decide (lo.getD 0<=l.length)) (K (.lit c (l.drop (lo.getD 0).toNat)))
   |some h=>ask (decide (0<=lo.getD 0)&&decide (lo.getD 0<=h)&&decide (h<=l.length)) (K (.lit c ((l.take h.toNat).drop (lo.getD 0).toNat)))
  else none
 |some (.slice e),.sl b r n=>
  match H.bl[b]? with
  |some (.cells c _)=>if V.size A e=some (width c) then ask (decide (0<=lo.getD 0)&&decide (lo.getD 0<=hi.getD n)&&decide (hi.getD n<=n)) (K (.sl b (SR r (lo.getD 0).toNat) ((hi.getD n).toNat-(lo.getD 0).toNat))) else none
  |some (.deep _ _)=>if V.size A e=some 1 then ask (decide (0<=lo.getD 0)&&decide (lo.getD 0<=hi.getD n)&&decide (hi.getD n<=n)) (K (.sl b (SR r (lo.getD 0).toNat) ((hi.getD n).toNat-(lo.getD 0).toNat))) else none
  |_=>none
 |some (.slice e),.all b=>
  match H.bl[b]? with
  |some (.cells c l)=>if V.size A e=some (width c) then ask (decide (0<=lo.getD 0)&&decide (lo.getD 0<=hi.getD l.length)&&decide (hi.getD l.length<=l.length)) (K (.sl b (lo.getD 0).toNat ((hi.getD l.length).toNat-(lo.getD 0).toNat))) else none
  |some (.deep _ l)=>if V.size A e=some 1 then ask (decide (0<=lo.getD 0)&&decide (lo.getD 0<=hi.getD l.length)&&decide (hi.getD l.length<=l.length)) (K (.sl b (lo.getD 0).toNat ((hi.getD l.length).toNat-(lo.getD 0).toNat))) else none
  |_=>none
 |_,_=>none
def Vh (H:UH) (t:TypeId) (x:UV):Option (UV×UH):=
 match A.P.underlying t with
 |some (.slice e)=>if (V.size A e).isSome then
   match x with
   | .Wa=>some (.Wa,H)
   | .Kd=>some (.Kd,H)
   | .lit c _=>some (.all H.bl.length,push H (.cells c []))
   | .sl b _ _=>match H.bl[b]? with|some (.cells c _)=>some (.all H.bl.length,push H (.cells c []))|_=>none
   | .all b=>match H.bl[b]? with|some (.cells c _)=>some (.all H.bl.length,push H (.cells c []))|_=>none
   |_=>none
  else none
 |_=>none
def tT (x:UV):Bool:=match x with| .int _ n=>decide (n=0)|_=>false
def bp (op:BinOp) (k:IntKind) (x y:Int) (K:UV->Option X):Option X:=
 match op with
 | .add=>K (.int k (k.wrap (x+y)))
 | .sub=>K (.int k (k.wrap (x-y)))
 | .mul=>K (.int k (k.wrap (x * y)))
 | .quo=>cond (decide (y=0)) none (K (.int k (k.wrap (x.tdiv y))))
 | .rem=>cond (decide (y=0)) none (K (.int k (x.tmod y)))
 | .and| .or| .xor| .andNot=>(V.bits op k x y).bind fun n=>K (.int k n)
 | .eql=>K (.bool (decide (x=y)))
 | .neq=>K (.bool (!decide (x=y)))
 | .lss=>K (.bool (decide (x<y)))
 | .leq=>K (.bool (decide (x<=y)))
 | .gtr=>K (.bool (decide (y<x)))
 | .geq=>K (.bool (decide (y<=x)))
 |_=>none
def eqFields (eq:TypeId->UV->UV->Option Bool) (xs ys:List UV):List Field->Option Bool
 |[]=>some true
 |fd::fs=>
  if fd.name= "_" then eqFields eq xs ys fs
  else (part A fd.type xs fd.offset).bind fun x=>(part A fd.type ys fd.offset).bind fun y=>(eq fd.type x y).bind fun b=>(eqFields eq xs ys fs).map fun c=>b&&c
def sg (eq:UV->UV->Option Bool) (e:TypeId) (sz:Nat) (xs ys:List UV):Nat->Nat->Option Bool
 |0,_=>some true
 |n+1,i=>(part A e xs (i * sz)).bind fun x=>(part A e ys (i * sz)).bind fun y=>(eq x y).bind fun b=>(sg eq e sz xs ys n (i+1)).map fun c=>b&&c
def Lu:Nat->TypeId->UV->UV->Option Bool
 |0,_,_,_=>none
 |d+1,t,x,y=>
  match A.P.underlying t,x,y with
  |some .bool,.bool a,.bool b=>some (a==b)
  |some (.int _),.int k a,.int k' b=>if k=k' then some (decide (a=b)) else none
  |some .string,.str a,.str b=>some (a.toList==b.toList)
  |some (.struct fs),.agg xs,.agg ys=>if A.P.stoodInHeld t then none else eqFields A (Lu d) xs ys fs.toList
  |some (.array n e),.agg xs,.agg ys=>(V.size A e).bind fun sz=>sg A (Lu d e) e sz xs ys n 0
  |_,_,_=>none
def og (t:TypeId) (x y:UV):Option Bool:=
 match A.P.underlying t,x,y with
 |some .bool,.bool a,.bool b=>some (a==b)
 |some (.struct _),.agg xs,.agg ys=>if A.P.eqGuardType A.P.depth t then none else Lu A 1000 t (.agg xs) (.agg ys)
 |some (.array _ _),.agg xs,.agg ys=>if A.P.eqGuardType A.P.depth t then none else Lu A 1000 t (.agg xs) (.agg ys)
 |some (.slice _),.Wa,.Wa=>some true
 |some (.slice _),.Wa,.Kd|some (.slice _),.Kd,.Wa=>some false
 |some (.pointer _),.De,.De=>some true
 |some (.pointer _),.De,.ptr .. |some (.pointer _),.ptr ..,.De|some (.pointer _),.De,.Ml .. |some (.pointer _),.Ml ..,.De|some (.pointer _),.De,.Bd _|some (.pointer _),.Bd _,.De=>some false
 |some (.map _ _),.yf,.yf=>some true
 |some (.map _ _),.yf,.mp _|some (.map _ _),.mp _,.yf=>some false
 |some (.func _ _ _),.Te,.Te=>some true
 |some (.func _ _ _),.Te,.fn .. |some (.func _ _ _),.fn ..,.Te=>some false
 |_,_,_=>none
def Ir (op:BinOp) (x y:ByteArray) (K:UV->Option X):Option X:=
 match op with
 | .add=>ask (decide (x.size+y.size<=9223372036854775807)) (K (.str (x++y)))
 | .eql=>K (.bool (x.toList==y.toList))
 | .neq=>K (.bool (!(x.toList==y.toList)))
 | .lss=>K (.bool (Op.bytesLess x.toList y.toList))
 | .leq=>K (.bool (Op.bytesLess x.toList y.toList||x.toList==y.toList))
 | .gtr=>K (.bool !(Op.bytesLess x.toList y.toList||x.toList==y.toList))
 | .geq=>K (.bool !(Op.bytesLess x.toList y.toList))
 |_=>none
def binop (op:BinOp) (t:TypeId) (x y:UV) (K:UV->Option X):Option X:=
 match op,x,y with
 | .shl,.int k a,.int _ b=>ask (decide (0<=b)) (K (.int k (k.wrap (a * 2^min b.toNat k.bits))))
 | .shr,.int k a,.int _ b=>ask (decide (0<=b)) (K (.int k (a.fdiv (2^min b.toNat k.bits))))
 |op,.int k a,.int k' b=>if k=k' then bp op k a b K else none
 |op,.str a,.str b=>Ir op a b K
 | .eql,x,y=>(og A t x y).bind fun b=>K (.bool b)
 | .neq,x,y=>(og A t x y).bind fun b=>K (.bool !b)
 |_,_,_=>none
def unop (op:UnOp) (x:UV):Option UV:=
 match op,x with
 | .neg,.int k n=>some (.int k (k.wrap (0-n)))
 | .xor,.int k n=>(V.bits .xor k (if k.signed then -1 else k.max) n).map (.int k)
 | .not,.bool b=>some (.bool !b)
 |_,_=>none
def convert (H:UH) (src dst:TypeId) (x:UV) (K:UV->UH->Option X):Option X:=
 match A.P.underlying src,A.P.underlying dst,x with
 |some _,some (.int k),.int _ n=>K (.int k (k.wrap n)) H
 |some _,some .string,.str s=>K (.str s) H
 |some .string,some (.slice e),.str s=>
  match A.P.underlying e with
  |some (.int .u8)=>ask (decide (s.size<=70368744177664)) (K (.all H.bl.length) (push H (.cells (.int .u8) (YL s))))
  |_=>none
 |some (.slice e),some .string,x=>
  match A.P.underlying e with
  |some (.int .u8)=>(rowsOf H (.int .u8) x).bind fun l=>K (.str (Nae l)) H
  |_=>none
 |_,_,_=>none
variable {k:KT}
def AA (i:jd k) (z:UV) (K:UV->Bool->Option X):List (jd k×UV)->Option X
 |[]=>K z false
 |(j,v)::es=>cond (HG k i j) (K v true) (AA i z K es)
def JJ (i:jd k) (v:UV) (K:List (jd k×UV)->Option X):List (jd k×UV)->Option X
 |[]=>K [(i,v)]
 |(j,w)::es=>cond (HG k i j) (K ((i,v)::es)) (JJ i v (fun qd=>K ((j,w)::qd)) es)
def On (i:jd k) (K:List (jd k×UV)->Option X):List (jd k×UV)->Option X
 |[]=>K []
 |(j,w)::es=>cond (HG k i j) (K es) (On i (fun qd=>K ((j,w)::qd)) es)
def gy (t:TypeId):Option KT:=
 match A.P.underlying t with
 |some (.int k)=>some (.int k)
 |some .string=>some .str
 |_=>none
def lookup (H:UH) (t:TypeId) (m i:UV) (ok:Bool) (K:UV->Option X):Option X:=
 match A.P.underlying t with
 |some (.map kt et)=>
  match m with
  | .mp b=>
   match H.bl[b]? with
   |some (.Nj k es)=>if gy A kt=some k then (keyOf? k i).bind fun i=>(zeroV A et).bind fun z=>AA i z (fun v b=>K (if ok then .Rc [v,.bool b] else v)) es else none
   |some (.ah k g c l)=>if gy A kt=some k then (keyOf? k i).bind fun i=>(zeroV A et).bind fun z=>cond (uA i l) (K (if ok then .Rc [valOf g c (Ps i (FR c) l),.bool true] else valOf g c (Ps i (FR c) l))) (K (if ok then .Rc [z,.bool false] else z)) else none
   |_=>none
  |_=>none
 |_=>none
def U3 (g:Bool) (c:CT) (x:UV):Option (Eb c):=
 match g,x with
 |true,.agg cs=>oG c cs
 |false,x=>if width c=1 then oG c [x] else none
 |_,_=>none
def mapUpdate (H:UH) (t:TypeId) (m i x:UV) (K:UH->Option X):Option X:=
 match A.P.underlying t,m with
 |some (.map kt _),.mp b=>
  if H.wm<=b then
   match H.bl[b]? with
   |some (.Nj k es)=>if gy A kt=some k/\Nb 8 x then (keyOf? k i).bind fun i=>JJ i x (fun qd=>K (Ma H b (.Nj k qd))) es else none
   |some (.ah k g c l)=>if gy A kt=some k then (keyOf? k i).bind fun i=>(U3 g c x).bind fun x=>K (Ma H b (.ah k g c (Lv i x l))) else none
   |_=>none
  else none
 |_,_=>none
def uf (H:UH) (t:TypeId) (m i:UV) (K:UH->Option X):Option X:=
 match A.P.underlying t,m with
 |some (.map kt _),.mp b=>
  if H.wm<=b then
   match H.bl[b]? with
   |some (.Nj k es)=>if gy A kt=some k then (keyOf? k i).bind fun i=>On i (fun qd=>K (Ma H b (.Nj k qd))) es else none
   |some (.ah k g c l)=>if gy A kt=some k then (keyOf? k i).bind fun i=>K (Ma H b (.ah k g c (xy i l))) else none
   |_=>none
  else none
 |_,_=>none
def FE (k:KT) (et:TypeId):UB:=
 match V.isAgg A et,EY A 16 et with
 |some g,some c=>if g||decide (width c=1) then .ah k g c [] else .Nj k []
 |_,_=> .Nj k []
def toInt:UV->Option Int
 | .int _ n=>some n
 |_=>none
def Bg (e:List (Nat×US)):Option Operand->Option (Option Int)
 |none=>some none
 |some x=>(val La e x).bind fun a=>(toInt a).map some
def kT:UV->UV->Option UV
 | .int k x,.int _ y=>some (.int k (if y>x then y else x))
 |_,_=>none
def gT:UV->UV->Option UV
 | .int k x,.int _ y=>some (.int k (if y<x then y else x))
 |_,_=>none
def Ck (f:UV->UV->Option UV) (x:UV):List UV->Option UV
 |[]=>some x
 |y::ys=>(f x y).bind fun z=>Ck f z ys
def cT:UV->Bool
 | .str _=>false
 |_=>true
def builtin (H:UH) (b:Builtin) (argTypes:Array TypeId) (args:List UV) (K:UV->UH->Option X):Option X:=
 match b,args with
 | .append,[x,y]=>append A H argTypes x y K
 | .len,[x]=>
  argTypes[0]?.bind fun t=>
   match A.P.underlying t,x with
   |some .string,.str s=>K (.int .i64 s.size) H
   |some (.slice _),.Wa|some (.slice _),.Kd=>K (.int .i64 0) H
   |some (.slice _),.lit _ l=>K (.int .i64 l.length) H
   |some (.slice _),.all b=>match H.bl[b]? with|some (.cells _ l)=>K (.int .i64 l.length) H|some (.deep _ l)=>K (.int .i64 l.length) H|_=>none
   |some (.slice _),.cr b r=>match H.bl[b]? with|some (.deep _ l)=>K (.int .i64 (l.getD r []).length) H|_=>none
   |some (.slice _),.sl _ _ n=>K (.int .i64 n) H
   |some (.map _ _),.mp b=>match H.bl[b]? with|some (.Nj _ es)=>K (.int .i64 es.length) H|some (.ah _ _ _ l)=>K (.int .i64 l.length) H|_=>none
   |some (.array n _),_=>K (.int .i64 n) H
   |_,_=>none
 | .max,x::xs=>(Ck kT x xs).bind fun v=>K v H
 | .min,x::xs=>(Ck gT x xs).bind fun v=>K v H
 | .delete,[m,k]=>argTypes[0]?.bind fun t=>uf A H t m k fun H'=>K (.Rc []) H'
 | .copy,[x,y]=>
  argTypes[0]?.bind fun t=>(V.elem? A t).bind fun e=>(V.size A e).bind fun z=>
   if cT y then
    match x with
    | .sl b r n=>
     match H.bl[b]? with
     |some (.cells c l)=>if H.wm<=b/\width c=z then (rowsOf H c y).bind fun g=>K (.int .i64 (min g.length n:Nat)) (Ma H b (.cells c (yy r (min g.length n) g l))) else none
     |_=>none
    | .all b=>
     match H.bl[b]? with
     |some (.cells c l)=>if H.wm<=b/\width c=z then (rowsOf H c y).bind fun g=>K (.int .i64 (min g.length l.length:Nat)) (Ma H b (.cells c (yy 0 (min g.length l.length) g l))) else none
     |_=>none
    |_=>none
   else none
 |_,_=>none
def rT (cs:List UV):Bool:=match cs with|[.De,.Wa]=>true|_=>false
variable [TB:sB]
def box (s:St) (t:TypeId) (Gg:Bool) (cs:List UV):US×St:=
 if Gg then (.loc s.F.length 0,{ s with F:=s.F++[cs] })
 else if t=TB.bT/\rT cs=true then (.v (.ptr (s.H.bl.length+1) 0),{ s with H:=push (push s.H (.ko .empty)) (.Fl (.all s.H.bl.length)) })
 else (.v (.ptr s.H.bl.length 0),{ s with H:=push s.H (.fb cs) })
def boxed (s:St) (t:TypeId) (Gg:Bool) (cs:List UV) (K:US->St->Option X):Option X:=if Gg||decide (0<cs.length) then K (box s t Gg cs).1 (box s t Gg cs).2 else none
def yK (v:UV) (H:UH):Option (UV×UH):=
 match v with
 | .all b=>if H.wm<=b then (match H.bl[b]? with|some (.cells c l)=>some (.lit c l,Ma H b .dead)|some (.deep c l)=>some (.lit (.slice c) l,Ma H b .dead)|_=>none) else none
 |_=>none
structure Env where
 join:Nat->Bool
 call:(X:Type)->UV->List UV->UH->(UV->UH->Option X)->Option X
 loop:(X:Type)->Nat->St->(V.Ex->St->Option X)->Option X
def op (env:Env) (za:List Nat) (s:St) (o:Oper) (K:US->St->Option X):Option X:=
 match o.op with
 | .move x| .assign x=>(operand La s.e x).bind fun v=>K v s
 | .pick c a b=>(val La s.e c).bind fun
  | .bool p=>cond p ((operand La s.e a).bind fun v=>K v s) ((operand La s.e b).bind fun v=>K v s)
  |_=>none
 | .alloc t=>(zero A t).bind fun z=>boxed s t ((o.dst.map (za.contains ·)).getD false) z K
 | .box t x=>(val La s.e x).bind fun a=>a.cells?.bind fun cs=>boxed s t ((o.dst.map (za.contains ·)).getD false) cs K
 | .build t ps=>(parts La s.e ps.toList).bind fun l=>(build A t l).bind fun v=>K (.v v) s
 | .buildSlice t n ps=>(parts La s.e ps.toList).bind fun l=>(buildSlice A s.H t n l).bind fun (v,H)=>(cond (V.xm za o) (yK v H) (some (v,H))).bind fun (v,H)=>K (.v v) { s with H:=H }
 | .load t x=>(operand La s.e x).bind fun p=>(load A s t p).bind fun v=>K (.v v) s
 | .store t x y=>(operand La s.e x).bind fun p=>(val La s.e y).bind fun a=>(store A s t p a).bind fun s'=>K (.v .Qb) s'
 | .nilCheck x=>(operand La s.e x).bind fun
  | .loc i c=>K (.loc i c) s
  | .v (.ptr b c)=>K (.v (.ptr b c)) s
  | .v (.Ml b r c)=>K (.v (.Ml b r c)) s
  | .v (.Ao b r j c)=>K (.v (.Ao b r j c)) s
  | .v (.Bd row)=>K (.v (.Bd row)) s
  | .v (.fn f cs)=>K (.v (.fn f cs)) s
  | .v (.yl b)=>K (.v (.yl b)) s
  |_=>none
 | .binOp b t x y _=>(val La s.e x).bind fun u=>(val La s.e y).bind fun v=>binop A b t u v fun r=>K (.v r) s
 | .unOp u _ x=>(val La s.e x).bind fun v=>(unop u v).bind fun r=>K (.v r) s
 | .convert src dst x=>(val La s.e x).bind fun v=>convert A s.H src dst v fun r H=>K (.v r) { s with H:=H }
 | .makeFunc (.func f) first Ug=>if first.size=0 then (Pg La s.e Ug.toList).bind fun l=>K (.v (.fn f l)) s else none
 | .makeMap t r=>
  (match r with|none=>some ()|some x=>(match A.P.underlying t with|some (.map _ _)=>(val La s.e x).bind fun v=>(toInt v).map fun _=>()|_=>none)).bind fun _=>
   match A.P.underlying t with
   |some (.map kt et)=>(gy A kt).bind fun k=>K (.v (.mp s.H.bl.length)) { s with H:=push s.H (FE A k et) }
   |_=>none
 | .makeSlice t l c=>(val La s.e l).bind fun u=>(val La s.e c).bind fun v=>makeSlice A s.H t u v fun r H=>K (.v r) { s with H:=H }
 | .slice t x lo hi none=>(val La s.e x).bind fun v=>(Bg La s.e lo).bind fun l=>(Bg La s.e hi).bind fun h=>slice A s.H t v l h fun r=>K (.v r) s
 | .slice t x none (some h) (some m)=>(val La s.e x).bind fun v=>(val La s.e h).bind fun a=>(val La s.e m).bind fun b=>if tT a&&tT b then (Vh A s.H t v).bind fun (r,H)=>K (.v r) { s with H:=H } else none
 | .fieldAddr t x f=>(operand La s.e x).bind fun p=>(V.field? A t f).bind fun fd=>(V.size A fd.type).bind fun n=>if n=0 then none else (ug fd.offset p).bind fun v=>K v s
 | .field t x f=>(val La s.e x).bind fun
  | .agg cs=>(V.field? A t f).bind fun fd=>(part A fd.type cs fd.offset).bind fun v=>K (.v v) s
  |_=>none
 | .indexAddr t x i=>(operand La s.e x).bind fun p=>(val La s.e i).bind fun n=>(toInt n).bind fun n=>indexAddr A s.H t p n fun v=>K v s
 | .index t x i=>(val La s.e x).bind fun v=>(val La s.e i).bind fun n=>(toInt n).bind fun n=>index A t v n fun r=>K (.v r) s
 | .lookup t x i ok=>(val La s.e x).bind fun m=>(val La s.e i).bind fun k=>lookup A s.H t m k ok fun r=>K (.v r) s
 | .mapUpdate t m k x| .insert t m k x=>(val La s.e m).bind fun m=>(val La s.e k).bind fun k=>(val La s.e x).bind fun v=>mapUpdate A s.H t m k v fun H=>K (.v .Qb) { s with H:=H }
 | .extract x i=>(val La s.e x).bind fun
  | .Rc vs=>vs[i]?.bind fun v=>K (.v v) s
  |_=>none
 | .call c=>
  (Pg La s.e c.args.toList).bind fun args=>
   match c.callee with
   | .value f=>(val La s.e f).bind fun g=>env.call X g args s.H fun r H=>K (.v r) { s with H:=H }
   | .builtin b=>builtin A s.H b c.argTypes args fun r H=>K (.v r) { s with H:=H }
   |_=>none
 |_=>none
def put (s:St) (n:Nat) (dst:Option Nat) (v:US):Option St:=
 match dst with
 |none=>some s
 |some d=>if d<n then some { s with e:=(d,v)::s.e } else none
def af (w:Bool):Option US->V.Ze
 |some (.loc i _)=> .box i w
 |some (.v (.Bd _))=>if w then .heap w else .no
 |_=> .heap w
def nq:Option US->V.Ze
 |some (.v (.sl _ _ _))|some (.v (.all _))|some (.v (.cr _ _))=> .heap false
 |_=> .no
def dh:Option (List UV)->V.Ze
 |some [.mp _]=> .heap false
 |some _=> .no
 |none=> .heap false
def Uc (za:List Nat) (s:St) (o:Oper) (quiet:Bool):V.Ze:=
 match o.op with
 | .load _ x=>af false (operand La s.e x)
 | .indexAddr _ x _=>nq (operand La s.e x)
 | .store _ x _=>af true (operand La s.e x)
 | .alloc _| .box _ _=>if V.Gg za o then .no else .heap false
 | .mapUpdate .. | .insert .. => .heap true
 | .call { callee:= .builtin .copy,.. }| .call { callee:= .builtin .delete,.. }=> .heap true
 | .call { callee:= .builtin .max,.. }| .call { callee:= .builtin .min,.. }=> .no
 | .call { callee:= .builtin .len,args,.. }=>dh (Pg La s.e args.toList)
 | .call _=> .heap (!quiet)
 | .move _| .assign _| .pick .. | .build .. | .nilCheck _| .binOp .. | .unOp .. | .makeFunc .. | .fieldAddr .. | .field .. | .index .. | .extract .. => .no
 |_=> .heap false
def guard (os:Array Oper) (s:St) (o:Oper) (K:Bool->St->Option X):Option X:=
 match o.guard with
 |none=>K true s
 |some (j,want)=>
  match (os[j]?).bind (·.dst) with
  |some d=>match get s.e d with
   | .v (.bool b)=>cond b (K want { s with e:=(d,.v (.bool true))::s.e }) (K (!want) { s with e:=(d,.v (.bool false))::s.e })
   | .v (.Rc [])=>K false s
   |_=>none
  |none=>none
def ops (env:Env) (za:List Nat) (n:Nat) (all:Array Oper):List Oper->St->(St->Option X)->Option X
 |[],s,K=>K s
 |o::rest,s,K=>guard all s o fun
  |true,s=>op A La env za s o fun v s=>fU v fun v=>(put s n o.dst v).bind fun s=>fSt s fun s=>ops env za n all rest s K
  |false,s=>(put s n o.dst (.v (.Rc []))).bind fun s=>ops env za n all rest s K
def rM (env:Env) (za:List Nat) (t:V.Ze) (s:St) (o:Oper) (K:US->St->Option X):Option X:=
 match t with
 | .heap true=>op A La env za s o K
 |_=>op A La env za { s with H:={ s.H with wm:=s.H.bl.length } } o fun v s'=>K v { s' with H:={ s'.H with wm:=s.H.wm } }
inductive Rec where
 |load (p:UV) (t:TypeId) (v:UV)
 |look (b:Nat) (k:KT) (es:List (jd k×UV))
def gf (s:St) (o:Oper):Bool:=
 V.Kj A o&&match o.op with
  | .load _ x=>(match operand La s.e x with|some (.v (.ptr ..))|some (.v (.Ml ..))|some (.v (.Ao ..))=>true|_=>false)
  |_=>true
def Gy (m:Nat):US->Bool
 | .v (.mp b)=>decide (b<m)
 | .v (.fn _ [])| .v .yf| .v .Te=>true
 |_=>false
def GS:UV->UV->Bool
 | .mp b,.mp b'=>b==b'
 | .fn f [],.fn f' []=>f==f'
 | .yf,.yf=>true
 | .Te,.Te=>true
 |_,_=>false
def IS:UV->UV->Bool
 | .fn f [],.fn f' []=>f==f'
 | .Te,.Te=>true
 |_,_=>false
def sameKey:(k k':KT)->jd k->jd k'->Bool
 | .int a,.int b=>fun (i j:Int)=>decide (a=b)&&decide (i=j)
 |_,_=>fun _ _=>false
def Fs (k k':KT):List (jd k×UV)->List (jd k'×UV)->Bool
 |[],[]=>true
 |(i,v)::es,(j,w)::qd=>sameKey k k' i j&&IS v w&&Fs k k' es qd
 |_,_=>false
def pM (s:St) (o:Oper) (v:US):Option Rec:=
 match o.op with
 | .load t x=>
  match operand La s.e x,v with
  |some (.v p),.v a=>some (.load p t a)
  |_,_=>none
 | .lookup _ x _ _=>
  match val La s.e x with
  |some (.mp b)=>(match s.H.bl[b]? with|some (.Nj k es)=>if Fs k k es es then some (.look b k es) else none|_=>none)
  |_=>none
 |_=>none
def XG (s:St):Rec->Bool
 | .load p t a=>(match load A s t (.v p) with|some a'=>GS a a'|none=>false)
 | .look b k es=>(match s.H.bl[b]? with|some (.Nj k' qd)=>Fs k k' es qd|_=>false)
def Lj (env:Env) (za:List Nat) (n:Nat) (all:Array Oper) (b:List Nat):List Oper->Nat->St->List V.Ze->List Rec->(St->List V.Ze->Option X)->Option X
 |[],_,s,l,_,K=>K s l
 |o::rest,i,s,l,rs,K=>guard all s o fun
  |true,s=>
   if gf A La s o then
    op A La env za s o fun v _=>fU v fun v=>
     if Gy s.H.bl.length v&&V.kP b i l then
      (pM La s o v).bind fun r=>(put s n o.dst v).bind fun gJ=>fSt gJ fun gJ=>Lj env za n all b rest (i+1) gJ (l++[.no]) (rs++[r]) K
     else none
   else
    rM A La env za (Uc La za s o (V.quietAt A za all.toList b i o)) s o fun v s'=>fU v fun v=>(put s' n o.dst v).bind fun gJ=>fSt gJ fun gJ=>
     if rs.all (XG A gJ) then Lj env za n all b rest (i+1) gJ (l++[Uc La za s o (V.quietAt A za all.toList b i o)]) rs K else none
  |false,s=>(put s n o.dst (.v (.Rc []))).bind fun s=>Lj env za n all b rest (i+1) s (l++[.no]) rs K
def region (env:Env) (za:List Nat) (n:Nat) (os:Array Oper) (draw:Bool) (s:St) (K:St->Option X):Option X:=
 if draw then
  if V.qE os (V.ck os.toList []) then
   Lj A La env za n os (V.ck os.toList []) os.toList 0 s [] [] fun s l=>if V.Ht (V.ck os.toList []) l then K s else none
  else none
 else ops A La env za n os os.toList s K
def ids:Nat->UV->List Nat
 |0,_=>[]
 |_+1,.ptr b _|_+1,.Ml b _ _|_+1,.sl b _ _|_+1,.all b|_+1,.cr b _|_+1,.Ao b _ _ _|_+1,.mp b|_+1,.yl b=>[b]
 |d+1,.fn _ cs|d+1,.agg cs|d+1,.Rc cs=>cs.flatMap (ids d)
 |_+1,_=>[]
def nag:UB->List Nat
 | .fb row=>row.flatMap (ids 8)
 | .loop _ env _ _=>env.flatMap fun p=>ids 8 p.2
 | .Fl q=>ids 8 q
 |_=>[]
def rac:US->List Nat
 | .v x=>ids 8 x
 | .loc .. =>[]
def reach (H:UH):Nat->List Nat->List Nat->List Nat
 |0,_,seen=>seen
 |_+1,[],seen=>seen
 |d+1,b::w,seen=>if seen.contains b then reach H d w seen else reach H d (nag (H.bl.getD b .dead)++w) (seen++[b])
def Sd:UB->Bool
 | .dead=>false
 |_=>true
def pos (b:Nat):List Nat->Nat->Option Nat
 |[],_=>none
 |x::l,i=>if x=b then some i else pos b l (i+1)
def yj (φ:Nat->Option Nat):Nat->UV->UV
 |0,_=> .Qb
 |_+1,.ptr b c=>match φ b with|some b'=> .ptr b' c|none=> .Qb
 |_+1,.Ml b r c=>match φ b with|some b'=> .Ml b' r c|none=> .Qb
 |_+1,.sl b r n=>match φ b with|some b'=> .sl b' r n|none=> .Qb
 |_+1,.all b=>match φ b with|some b'=> .all b'|none=> .Qb
 |_+1,.cr b r=>match φ b with|some b'=> .cr b' r|none=> .Qb
 |_+1,.Ao b r j c=>match φ b with|some b'=> .Ao b' r j c|none=> .Qb
 |_+1,.mp b=>match φ b with|some b'=> .mp b'|none=> .Qb
 |_+1,.yl b=>match φ b with|some b'=> .yl b'|none=> .Qb
 |d+1,.fn f cs=> .fn f (cs.map (yj φ d))
 |d+1,.agg cs=> .agg (cs.map (yj φ d))
 |d+1,.Rc cs=> .Rc (cs.map (yj φ d))
 |_+1,x=>x
def Is (φ:Nat->Option Nat):UB->UB
 | .fb row=> .fb (row.map (yj φ 8))
 | .loop id env st pe=> .loop id (env.map fun p=>(p.1,yj φ 8 p.2)) st pe
 | .Fl q=> .Fl (yj φ 8 q)
 |x=>x
def Nl:List (Nat×US)->List Nat->List Nat
 |[],l=>l
 |(_,.loc i _)::e,l=>Nl e (if l.contains i then l else l++[i])
 |_::e,l=>Nl e l
def fP (φ ψ:Nat->Option Nat):US->US
 | .v x=> .v (yj φ 8 x)
 | .loc i c=>match ψ i with|some i'=> .loc i' c|none=> .v .Qb
def compact (keep:List Nat) (s:St):St:=
 let e:=keep.map fun i=>(i,get s.e i)
 let fs:=Nl e []
 let rows:=fs.map fun i=>s.F.getD i []
 let bs:=ua s.base++(reach s.H 64 (ua s.base++(e.flatMap fun p=>rac p.2)++rows.flatMap fun row=>row.flatMap (ids 8)) []).filter (fun b=>decide (s.base<=b))
 let φ:=fun b=>pos b bs 0
 let ψ:=fun i=>pos i fs 0
 { e:=e.map fun p=>(p.1,fP φ ψ p.2),F:=rows.map fun row=>row.map (yj φ 8),H:=⟨bs.map fun b=>Is φ (s.H.bl.getD b .dead),s.H.wm⟩,base:=s.base }
inductive Sh where
 |any
 |Qb
 |lit (c:CT)
 |own (c:CT)
 |cut (c:CT)
 |deep (c:CT)
 |mv (c:CT)
 |map (k:KT) (g:Bool) (c:CT)
 |agg (l:List Sh)
 |Rc (l:List Sh)
 |kill (l:List Nat) (sh:Sh)
 deriving Inhabited
def Sh.gA:Sh->List Nat
 | .kill l _=>l
 |_=>[]
def Sh.inner:Sh->Sh
 | .kill _ sh=>sh
 |sh=>sh
def Zt:List Nat->UH->UH
 |[],H=>H
 |b::l,H=>Zt l (Ma H b .dead)
def CY {k:KT} (g:Bool) (c:CT):List (jd k×UV)->Option (List (jd k×Eb c))
 |[]=>some []
 |(i,x)::es=>(U3 g c x).bind fun y=>(CY g c es).bind fun l=>some ((i,y)::l)
def S5 (d:Nat) (H:UH) (c:CT) (b:Nat):Option (List (Eb c)):=
 match H.bl[b]? with
 |some (.cells c' l)=>if h:c'=c then some (h ▸ l) else none
 |some (.deep c' l)=>if h:CT.slice c'=c/\1<d then some (h.1 ▸ l) else none
 |_=>none
def Zf:Nat->Bool->Sh->UV->UH->Option (UV×UH)
  |0,_,_,_,_=>none
  |_+1,_,.any,x,H=>some (x,H)
  |_+1,_,.Qb,_,H=>some (.Qb,H)
  |_+1,_,.lit c,.Wa,H|_+1,_,.lit c,.Kd,H=>some (.lit c [],H)
  |d+1,fz,.lit c,.sl b r n,H=>if fz&&decide (0<d)&&decide (H.wm<=b) then (rowsOf H c (.sl b r n)).bind fun l=>some (.lit c l,Ma H b .dead) else none
  |d+1,fz,.lit c,.all b,H=>if fz&&decide (0<d)&&decide (H.wm<=b) then (S5 d H c b).bind fun l=>some (.lit c l,Ma H b .dead) else none
  |_+1,_,.lit _,.lit c l,H=>some (.lit c l,H)
  |_+1,_,.own c,.Wa,H|_+1,_,.own c,.Kd,H=>some (.all H.bl.length,push H (.cells c []))
  |_+1,_,.own c,.sl b 0 n,H=>
   match H.bl[b]? with
   |some (.cells c' l)=>if c'=c/\H.wm<=b then some (.all H.bl.length,push (Ma H b .dead) (.cells c' (l.take n))) else none
   |_=>none
  |_+1,_,.cut c,.Wa,H|_+1,_,.cut c,.Kd,H=>some (.sl H.bl.length 0 0,push H (.cells c []))
  |_+1,_,.cut _,.sl b r n,H=>some (.sl b r n,H)
  |_+1,_,.cut _,.all b,H=>match H.bl[b]? with|some (.cells _ l)=>some (.sl b 0 l.length,H)|_=>none
  |_+1,_,.own _,.all b,H=>some (.all b,H)
  |_+1,_,.deep c,.Wa,H|_+1,_,.deep c,.Kd,H=>some (.all H.bl.length,push H (.deep c []))
  |_+1,_,.deep _,.all b,H=>some (.all b,H)
  |_+1,_,.mv c,.all b,H=>
   match H.bl[b]? with
   |some (.cells c' l)=>if c'=c/\H.wm<=b then some (.all H.bl.length,push (Ma H b .dead) (.cells c' l)) else none
   |_=>none
  |_+1,_,.map k g c,.mp b,H=>
   match H.bl[b]? with
   |some (.Nj k' es)=>if h:k'=k then (CY g c (h ▸ es)).bind fun l=>some (.mp b,Ma H b (.ah k g c l)) else none
   |some (.ah ..)=>some (.mp b,H)
   |_=>none
  |d+1,fz,.agg Bt,.agg cs,H=>(Gh (Zf d fz) Bt cs H).map fun (l,H)=>(.agg l,H)
  |d+1,fz,.Rc Bt,.Rc cs,H=>(Gh (Zf d fz) Bt cs H).map fun (l,H)=>(.Rc l,H)
  |_+1,_,_,_,_=>none
 where
  Gh (m:Sh->UV->UH->Option (UV×UH)):List Sh->List UV->UH->Option (List UV×UH)
   |[],[],H=>some ([],H)
   |s::ss,x::xs,H=>(m s x H).bind fun (x',H)=>(Gh m ss xs H).bind fun (Ho,H)=>some (x'::Ho,H)
   |_,_,_=>none
def Xo (Bt:List (Nat×Sh)):List (Nat×US)->UH->Option (List (Nat×US)×UH)
 |[],H=>some ([],H)
 |(i,.v x)::e,H=>(match Bt.lookup i with|some sh=>Zf 8 false sh x H|none=>some (x,H)).bind fun (x',H)=>(Xo Bt e H).bind fun (e',H)=>some ((i,.v x')::e',H)
 |p::e,H=>(Xo Bt e H).bind fun (e',H)=>some (p::e',H)
def fT (sh:Option (List Sh)) (row:List UV) (H:UH):Option (List UV×UH):=
 match sh with
 |some l=>Zf.Gh (Zf 8 false) l row H
 |none=>some (row,H)
def Yw (Bt:List (Nat×List Sh)):Nat->List (List UV)->UH->Option (List (List UV)×UH)
 |_,[],H=>some ([],H)
 |i,row::F,H=>(fT (Bt.lookup i) row H).bind fun (Jb,H)=>(Yw Bt (i+1) F H).bind fun (F',H)=>some (Jb::F',H)
def Zw:List (Nat×List Sh)->UH->Option UH
 |[],H=>some H
 |(b,Bt)::l,H=>
  match H.bl[b]? with
  |some (.fb row)=>(Zf.Gh (Zf 8 false) Bt row H).bind fun (Jb,H1)=>match H1.bl[b]? with|some (.fb _)=>Zw l (Ma H1 b (.fb Jb))|_=>none
  |_=>none
structure ZD where
 keep:List Nat
 nM:List (Nat×Sh)
 boxes:List (Nat×List Sh)
 aag:List (Nat×List Sh)
def To (p:ZD) (s:St):Option St:=
 if s.H.wm<=s.base then (Xo p.nM (compact p.keep s).e (compact p.keep s).H).bind fun (e,H)=>(Yw p.boxes 0 (compact p.keep s).F H).bind fun (F,H)=>(Zw p.aag H).bind fun H=>if H.wm<=s.base then some (compact p.keep { e,F,H,base:=s.base }) else none else none
def bf:Code->Nat
 | .region id _ _=>id
 | .seq a _=>bf a
 | .cond _ a _=>bf a
 | .block _ c=>bf c
 | .loop c=>bf c
 | .scope c=>bf c
 | .rangeFunc _ _ a _=>bf a
 |_=>0
def Es (s:St) (x:Operand) (b:Bool):St:=
 match x with
 | .tmp t=>{ s with e:=(t,.v (.bool b))::s.e }
 |_=>s
def code (env:Env) (za:List Nat) (n:Nat):Code->St->(V.Ex->St->Option X)->Option X
 | .skip,s,K=>K .normal s
 | .label _,s,K=>K .normal s
 | .region id os draw,s,K=>cond (env.join (2000000+id)) (env.loop X (2000000+id) s K) (region A La env za n os draw s fun s=>K .normal s)
 | .seq a b,s,K=>code env za n a s fun
  | .normal,s=>code env za n b s K
  |ex,s=>K ex s
 | .cond c x y,s,K=>cond (env.join (1000000+bf x)) (env.loop X (1000000+bf x) s K) ((val La s.e c).bind fun
  | .bool b=>cond b (code env za n x (Es s c true) K) (code env za n y (Es s c false) K)
  |_=>none)
 | .block id c,s,K=>code env za n c s fun
  | .exit zB,s=>if zB=id then K .normal s else K (.exit zB) s
  |ex,s=>K ex s
 | .scope c,s,K=>code env za n c s K
 | .loop c,s,K=>env.loop X (bf c) s K
 | .rangeFunc g ps a b,s,K=>env.loop X (bf (.rangeFunc g ps a b)) s K
 | .exit id,s,K=>K (.exit id) s
 | .ret,s,K=>K .ret s
 |_,_,_=>none
def be:List UV->Nat->List (Nat×US)
 |[],_=>[]
 |a::as,i=>(i,.v a)::be as (i+1)
def results (s:St):List ResultVar->Option (List UV)
 |[]=>some []
 | .tmp t::rs=>(match get s.e t with| .v .Qb=>none| .v a=>some a|_=>none).bind fun a=>(results s rs).bind fun l=>some (a::l)
 | .cell p t::rs=>(load A s t (get s.e p)).bind fun a=>(results s rs).bind fun l=>some (a::l)
def result:List UV->UV
 |[a]=>a
 |l=> .Rc l
def gc (base:Nat) (r:UV) (H:UH):UV×UH:=
 let s:=compact [0] ⟨[(0,.v r)],[],H,base⟩
 (match get s.e 0 with| .v x=>x|_=> .Qb,s.H)
def QH (env:Env) (za:List Nat) (fn:Func) (sh:Sh) (fz:Bool) (args:List UV) (H:UH) (K:UV->UH->Option X):Option X:=
 match fn.body with
 |none=>none
 |some c=>
  if args.length<=fn.ntmps then
   code A La env za fn.ntmps c ⟨be args 0,[],H,H.bl.length⟩ fun
    | .exit _,_=>none
    |_,s=>(results A s fn.results.toList).bind fun l=>(Zf 8 fz sh.inner (result l) s.H).bind fun (r,H1)=>if (!fz||Nb 8 r)&&decide (H1.wm<=H.bl.length) then K (gc H.bl.length r (Zt sh.gA H1)).1 (gc H.bl.length r (Zt sh.gA H1)).2 else none
  else none
def Ni:List Nat->List UV->List (Nat×US)->List (Nat×US)
 |p::ps,a::as,e=>Ni ps as ((p,.v a)::e)
 |_,_,e=>e
def LL (e:List (Nat×US)) (ks:List Nat):List (Nat×UV):=ks.map fun i=>(i,match get e i with| .v a=>a|_=> .Qb)
def ve (e:List (Nat×UV)):List (Nat×US):=e.map fun p=>(p.1,US.v p.2)
def WG (env:Env) (id n:Nat) (ks:List Nat) (g:Operand) (s:St) (K:V.Ex->St->Option X):Option X:=
 (val La s.e g).bind fun fv=>
  match fv with
  | .fn f cs=>
   if (match A.fns f with|some fn=>fn.body.isSome|none=>false)&&ks.all (fun i=>decide (i<n)) then
    env.call X (.fn f cs) [.yl s.H.bl.length] (push s.H (.loop id (LL s.e ks) .ready .normal)) fun _ H'=>
     match H'.bl[s.H.bl.length]? with
     |some (.loop _ _ st pe)=>(match st with| .busy=>none|_=>K pe { s with H:=Ma H' s.H.bl.length .dead })
     |_=>none
   else none
  |_=>none
def lM (env:Env) (id:Nat) (r:RFn) (args:List UV) (H:UH) (K:UV->UH->Option X):Option X:=
 match args with
 | .yl b::as=>
  match H.bl[b]? with
  |some (.loop zB e .ready _)=>
   if zB=id/\as.length=r.ps.length/\H.wm<=b/\r.ps.all (fun p=>decide (p<r.n))=true then
    code A La env [] r.n r.assign ⟨Ni r.ps as (ve e),[],H,H.bl.length⟩ fun
     | .normal,s=>
      match s.H.bl[b]? with
      |some (.loop GM e1 .ready pe1)=>
       code A La env [] r.n r.body { s with H:=Ma s.H b (.loop GM e1 .busy pe1) } fun ex s2=>
        match s2.H.bl[b]? with
        |some (.loop FM e2 _ _)=>
         if s2.H.wm<=H.bl.length then
          K (.bool ex.Fg) (gc H.bl.length (.bool ex.Fg) (Ma s2.H b (.loop FM e2 (if ex.Fg then .ready else .done) ex))).2
         else none
        |_=>none
      |_=>none
     |_,_=>none
   else none
  |_=>none
 |_=>none
abbrev Spec:=(X:Type)->List UV->UH->(UV->UH->Option X)->Option X
def bB:List (FuncId×Spec)->FuncId->Spec
 |[],_,_,_,_,_=>none
 |(f,g)::l,f',X,args,H,K=>if f'=f then g X args H K else bB l f' X args H K
def sG (spec:(X:Type)->UV->List UV->UH->(UV->UH->Option X)->Option X) (fv:UV) (args:List UV) (H:UH) (K:UV->UH->Option X):Option X:=
 let bs0:=(reach H 64 ((fv::args).flatMap (ids 8)) []).filter (fun b=>Sd (H.bl.getD b .dead))
 let lo:=bs0.filter (fun b=>decide (b<H.wm))
 let bs:=lo++bs0.filter (fun b=>decide (H.wm<=b))
 let φ:=fun b=>pos b bs 0
 spec X (yj φ 8 fv) (args.map (yj φ 8)) ⟨bs.map fun b=>Is φ (H.bl.getD b .dead),lo.length⟩ fun r H1=>
  let news:=(reach H1 64 (ua bs.length++ids 8 r) []).filter (fun b=>decide (bs.length<=b))
  let ψ:=fun b=>if b<bs.length then bs[b]? else (pos b news 0).map (H.bl.length+ ·)
  K (yj ψ 8 r) ⟨(ua H.bl.length).map (fun b=>match φ b with|some j=>Is ψ (H1.bl.getD j .dead)|none=>H.bl.getD b .dead)++news.map (fun b=>Is ψ (H1.bl.getD b .dead)),H.wm⟩
def uO (l:List (FuncId×Spec)) (X:Type) (fv:UV) (args:List UV) (H:UH) (K:UV->UH->Option X):Option X:=
 sG (fun X fv args H K=>match fv with| .fn f cs=>bB l f X (args++cs) H K|_=>none) fv args H K
def LY (l ly:List (FuncId×Spec)) (X:Type) (fv:UV) (args:List UV) (H:UH) (K:UV->UH->Option X):Option X:=
 sG (fun X fv args H K=>
  match fv with
  | .fn f cs=>bB l f X (args++cs) H K
  | .yl b=>(match H.bl[b]? with|some (.loop id _ _ _)=>bB ly id X (.yl b::args) H K|_=>none)
  |_=>none) fv args H K
end
end Go.U
namespace Go.U
open Go
structure Mp where
 ι:Nat->Nat->Option Nat
 len:Nat->Nat->Nat
 top:Nat
inductive RV (m:Mp):UV->V.AV->Prop
 |Qb (a:V.AV):RV m .Qb a
 |bool (b:Bool):RV m (.bool b) (.bool b)
 |int (k:IntKind) (n:Int):RV m (.int k n) (.int k n)
 |str (s:ByteArray):RV m (.str s) (.str s)
 |De:RV m .De .De
 |ptr (b c x:Nat):m.ι b 0=some x->RV m (.ptr b c) (.ptr x 0 c)
 |Ml (b r c x:Nat):m.ι b 0=some x->r<m.len b 0->RV m (.Ml b r c) (.ptr x r c)
 |Bd (row:List UV) (Jb:List V.AV):Jb.length=row.length->(∀ x∈row,closed 8 x=true)->
  (∀ (c:Nat) (x:UV) (a:V.AV),row[c]?=some x->Jb[c]?=some a->RV m x a)->RV m (.Bd row) (.Bd Jb)
 |Wa:RV m .Wa .Wa
 |Kd:RV m .Kd .Kd
 |sl (b r n x:Nat):m.ι b 0=some x->r+n<=m.len b 0->RV m (.sl b r n) (.sl x r n)
 |Jr (b r:Nat) (a:V.AV):a= .Wa\/a= .Kd->RV m (.sl b r 0) a
 |all (b x:Nat):m.ι b 0=some x->RV m (.all b) (.sl x 0 (m.len b 0))
 |Nf (b:Nat) (a:V.AV):b<m.top->m.len b 0=0->a= .Wa\/a= .Kd->RV m (.all b) a
 |cr (b r x:Nat):m.ι b (r+1)=some x->RV m (.cr b r) (.sl x 0 (m.len b (r+1)))
 |Ts (b r:Nat) (a:V.AV):b<m.top->m.len b (r+1)=0->a= .Wa\/a= .Kd->RV m (.cr b r) a
 |Ao (b r j c x:Nat):m.ι b (r+1)=some x->j<m.len b (r+1)->RV m (.Ao b r j c) (.ptr x j c)
 |lit (c:CT) (l:List (Eb c)) (rows:List (List V.AV)):rows.length=l.length->
  (∀ (i:Nat) (row:List V.AV),rows[i]?=some row->row.length=width c)->
  (∀ (i:Nat) (row:List V.AV) (k:Nat) (x:UV) (a:V.AV),rows[i]?=some row->(vw c l i)[k]?=some x->row[k]?=some a->RV m x a)->RV m (.lit c l) (.lit (width c) rows)
 |Qh (c:CT) (a:V.AV):a= .Wa\/a= .Kd->RV m (.lit c []) a
 |yf:RV m .yf .yf
 |mp (b x:Nat):m.ι b 0=some x->RV m (.mp b) (.mp x)
 |Te:RV m .Te .Te
 |fn (f:FuncId) (cs:List UV) (as:List V.AV):as.length=cs.length->(∀ (i:Nat) (x:UV) (a:V.AV),cs[i]?=some x->as[i]?=some a->RV m x a)->RV m (.fn f cs) (.fn f as)
 |yl (b x:Nat):m.ι b 0=some x->RV m (.yl b) (.yl x)
 |Cg:RV m .Cg .Cg
 |agg (cs:List UV) (as:List V.AV):as.length=cs.length->(∀ (i:Nat) (x:UV) (a:V.AV),cs[i]?=some x->as[i]?=some a->RV m x a)->RV m (.agg cs) (.agg as)
 |Rc (cs:List UV) (as:List V.AV):as.length=cs.length->(∀ (i:Nat) (x:UV) (a:V.AV),cs[i]?=some x->as[i]?=some a->RV m x a)->RV m (.Rc cs) (.Rc as)
def RL (m:Mp) (xs:List UV) (as:List V.AV):Prop:=as.length=xs.length/\∀ (i:Nat) (x:UV) (a:V.AV),xs[i]?=some x->as[i]?=some a->RV m x a
structure Mp.Le (m m':Mp):Prop where
 of:∀ b {s} x,m.ι b s=some x->m'.ι b s=some x/\m'.len b s=m.len b s
 top:m.top<=m'.top
 len:∀ b,b<m.top->m'.len b=m.len b
theorem Mp.Le.refl (m:Mp):m.Le m:=⟨fun _ _ _ h=>⟨h,rfl⟩,oa _,fun _ _=>rfl⟩
theorem Mp.Le.trans {m m' m'':Mp} (h:m.Le m') (h':m'.Le m''):m.Le m'':=⟨fun b _ x hb=>⟨(h'.of b x (h.of b x hb).1).1,(h'.of b x (h.of b x hb).1).2.trans (h.of b x hb).2⟩,Ib h.top h'.top,fun b hb=>(h'.len b (Za hb h.top)).trans (h.len b hb)⟩
theorem Ah:∀ (c:CT) (x:Eb c),(enc c x).length=width c
 | .bool,_=>rfl
 | .int _,_=>rfl
 | .str,_=>rfl
 | .slice _,_=>rfl
 | .pair a b,(x,y)=>by simp [enc,width,Ah a x,Ah b y]
theorem Fk:∀ (c:CT) (x:Eb c) (v:UV),v∈enc c x->closed 8 v=true
 | .bool,_,v,h=>by simp [enc] at h;subst h;rfl
 | .int _,_,v,h=>by simp [enc] at h;subst h;rfl
 | .str,_,v,h=>by simp [enc] at h;subst h;rfl
 | .slice _,_,v,h=>by simp [enc] at h;subst h;rfl
 | .pair a b,(x,y),v,h=>by
  simp only [enc,Tn] at h;rcases h with h|h
  · exact Fk a x v h
  · exact Fk b y v h
theorem tf (c:CT) (l:List (Eb c)) (i:Nat):(vw c l i).length=width c:=Ah c _
theorem Pd (c:CT) (l:List (Eb c)) (i:Nat) (v:UV) (h:v∈vw c l i):closed 8 v=true:=Fk c _ v h
theorem RV.mono {m m':Mp} (h:m.Le m') {x:UV} {a:V.AV} (hx:RV m x a):RV m' x a:=by
 induction hx with
 |Qb a=>exact .Qb a
 |bool b=>exact .bool b
 |int k n=>exact .int k n
 |str s=>exact .str s
 |De=>exact .De
 |ptr b c x hb=>exact .ptr b c x (h.of b x hb).1
 |Ml b r c x hb hr=>exact .Ml b r c x (h.of b x hb).1 (by rw [(h.of b x hb).2];exact hr)
 |Bd row Jb hl hc _ ih=>exact .Bd row Jb hl hc ih
 |Wa=>exact .Wa
 |Kd=>exact .Kd
 |sl b r n x hb hr=>exact .sl b r n x (h.of b x hb).1 (by rw [(h.of b x hb).2];exact hr)
 |Jr b r a ha=>exact .Jr b r a ha
 |all b x hb=>rw [<- (h.of b x hb).2];exact .all b x (h.of b x hb).1
 |Nf b a hb hl ha=>exact .Nf b a (Za hb h.top) (by rw [h.len b hb];exact hl) ha
 |cr b r x hb=>rw [<- (h.of b x hb).2];exact .cr b r x (h.of b x hb).1
 |Ts b r a hb hl ha=>exact .Ts b r a (Za hb h.top) (by rw [h.len b hb];exact hl) ha
 |Ao b r j c x hb hr=>exact .Ao b r j c x (h.of b x hb).1 (by rw [(h.of b x hb).2];exact hr)
 |lit c l rows h1 h2 _ ih=>exact .lit c l rows h1 h2 ih
 |Qh c a ha=>exact .Qh c a ha
 |yf=>exact .yf
 |mp b x hb=>exact .mp b x (h.of b x hb).1
 |Te=>exact .Te
 |fn f cs as hl _ ih=>exact .fn f cs as hl ih
 |yl b x hb=>exact .yl b x (h.of b x hb).1
 |Cg=>exact .Cg
 |agg cs as hl _ ih=>exact .agg cs as hl ih
 |Rc cs as hl _ ih=>exact .Rc cs as hl ih
theorem RL.mono {m m':Mp} (h:m.Le m') {xs:List UV} {as:List V.AV} (hx:RL m xs as):RL m' xs as:=⟨hx.1,fun i x a h1 h2=>(hx.2 i x a h1 h2).mono h⟩
theorem RV.free {m:Mp} (m':Mp) {x:UV} {a:V.AV} (hx:RV m x a):∀ d,closed d x=true->RV m' x a:=by
 induction hx with
 |Qb a=>intro d hd;cases d<;>simp [closed] at hd
 |bool b=>intro _ _;exact .bool b
 |int k n=>intro _ _;exact .int k n
 |str s=>intro _ _;exact .str s
 |De=>intro _ _;exact .De
 |ptr b c x hb=>intro d hd;cases d<;>simp [closed] at hd
 |Ml b r c x hb hr=>intro d hd;cases d<;>simp [closed] at hd
 |Bd row Jb hl hc _ ih=>intro _ _;exact .Bd row Jb hl hc fun c x a h1 h2=>ih c x a h1 h2 8 (hc x (jb h1))
 |Wa=>intro _ _;exact .Wa
 |Kd=>intro _ _;exact .Kd
 |sl b r n x hb hr=>intro d hd;cases d<;>simp [closed] at hd
 |Jr b r a ha=>intro d hd;cases d<;>simp [closed] at hd
 |all b x hb=>intro d hd;cases d<;>simp [closed] at hd
 |Nf b a hb hl ha=>intro d hd;cases d<;>simp [closed] at hd
 |cr b r x hb=>intro d hd;cases d<;>simp [closed] at hd
 |Ts b r a hb hl ha=>intro d hd;cases d<;>simp [closed] at hd
 |Ao b r j c x hb hr=>intro d hd;cases d<;>simp [closed] at hd
 |lit c l rows h1 h2 _ ih=>intro _ _;exact .lit c l rows h1 h2 fun i row k x a k1 k2 k3=>ih i row k x a k1 k2 k3 8 (Pd c l i x (jb k2))
 |Qh c a ha=>intro _ _;exact .Qh c a ha
 |yf=>intro _ _;exact .yf
 |mp b x hb=>intro d hd;cases d<;>simp [closed] at hd
 |Te=>intro _ _;exact .Te
 |fn f cs as hl _ ih=>
  intro d hd;cases d with
  |zero=>simp [closed] at hd
  |succ d=>exact .fn f cs as hl fun i x a h1 h2=>ih i x a h1 h2 d (Yb.1 (by simpa [closed] using hd) x (jb h1))
 |yl b x hb=>intro d hd;cases d<;>simp [closed] at hd
 |Cg=>intro _ _;exact .Cg
 |agg cs as hl _ ih=>intro d hd;cases d<;>simp [closed] at hd
 |Rc cs as hl _ ih=>intro d hd;cases d<;>simp [closed] at hd
theorem RV.mU {m:Mp} (m':Mp):∀ (d:Nat) {x:UV} {a:V.AV},RV m x a->Nb d x=true->RV m' x a
 |0,x,a,_,hd=>by simp [Nb] at hd
 |d+1,x,a,hx,hd=>by
  cases x with
  |agg cs=>
   cases hx with
   |agg _ as hl hr=>exact .agg cs as hl fun i x a h1 h2=>RV.mU m' d (hr i x a h1 h2) (Yb.1 (by simpa [Nb] using hd) x (jb h1))
  |Rc cs=>
   cases hx with
   |Rc _ as hl hr=>exact .Rc cs as hl fun i x a h1 h2=>RV.mU m' d (hr i x a h1 h2) (Yb.1 (by simpa [Nb] using hd) x (jb h1))
  |_=>exact hx.free m' 8 (by simpa [Nb] using hd)
theorem RV.yj {m m':Mp} {φ:Nat->Option Nat} (h:∀ b b',φ b=some b'->m'.ι b'=m.ι b/\m'.len b'=m.len b/\b'<m'.top):∀ (d:Nat) {x:UV} {a:V.AV},RV m x a->RV m' (U.yj φ d x) a
 |0,x,a,_=> .Qb a
 |d+1,x,a,hx=>by
  cases hx with
  |Qb a=>exact .Qb a
  |bool b=>exact .bool b
  |int k n=>exact .int k n
  |str s=>exact .str s
  |De=>exact .De
  |ptr b c x hb=>
   simp only [U.yj];split
   · rename_i b' zd;exact .ptr b' c x (by rw [(h b b' zd).1];exact hb)
   · exact .Qb _
  |Ml b r c x hb hr=>
   simp only [U.yj];split
   · rename_i b' zd;exact .Ml b' r c x (by rw [(h b b' zd).1];exact hb) (by rw [(h b b' zd).2.1];exact hr)
   · exact .Qb _
  |Bd row Jb hl hc hr=>exact RV.free m' (.Bd row Jb hl hc hr) 1 rfl
  |Wa=>exact .Wa
  |Kd=>exact .Kd
  |sl b r n x hb hr=>
   simp only [U.yj];split
   · rename_i b' zd;exact .sl b' r n x (by rw [(h b b' zd).1];exact hb) (by rw [(h b b' zd).2.1];exact hr)
   · exact .Qb _
  |Jr b r a ha=>
   simp only [U.yj];split
   · exact .Jr _ r a ha
   · exact .Qb _
  |all b x hb=>
   simp only [U.yj];split
   · rename_i b' zd;rw [<- (h b b' zd).2.1];exact .all b' x (by rw [(h b b' zd).1];exact hb)
   · exact .Qb _
  |Nf b a hb hl ha=>
   simp only [U.yj];split
   · rename_i b' zd;exact .Nf b' a (h b b' zd).2.2 (by rw [(h b b' zd).2.1];exact hl) ha
   · exact .Qb _
  |cr b r x hb=>
   simp only [U.yj];split
   · rename_i b' zd;rw [<- (h b b' zd).2.1];exact .cr b' r x (by rw [(h b b' zd).1];exact hb)
   · exact .Qb _
  |Ts b r a hb hl ha=>
   simp only [U.yj];split
   · rename_i b' zd;exact .Ts b' r a (h b b' zd).2.2 (by rw [(h b b' zd).2.1];exact hl) ha
   · exact .Qb _
  |Ao b r j c x hb hr=>
   simp only [U.yj];split
   · rename_i b' zd;exact .Ao b' r j c x (by rw [(h b b' zd).1];exact hb) (by rw [(h b b' zd).2.1];exact hr)
   · exact .Qb _
  |lit c l rows h1 h2 h3=>exact RV.free m' (.lit c l rows h1 h2 h3) 1 rfl
  |Qh c a ha=>exact .Qh c a ha
  |yf=>exact .yf
  |mp b x hb=>
   simp only [U.yj];split
   · rename_i b' zd;exact .mp b' x (by rw [(h b b' zd).1];exact hb)
   · exact .Qb _
  |Te=>exact .Te
  |fn f cs as hl hr=>
   refine .fn f _ as (by simp [hl]) fun i x a h1 h2=> ?_
   rw [Ob,ia] at h1;obtain ⟨y,hy,rfl⟩:=h1;exact RV.yj h d (hr i y a hy h2)
  |yl b x hb=>
   simp only [U.yj];split
   · rename_i b' zd;exact .yl b' x (by rw [(h b b' zd).1];exact hb)
   · exact .Qb _
  |Cg=>exact .Cg
  |agg cs as hl hr=>
   refine .agg _ as (by simp [hl]) fun i x a h1 h2=> ?_
   rw [Ob,ia] at h1;obtain ⟨y,hy,rfl⟩:=h1;exact RV.yj h d (hr i y a hy h2)
  |Rc cs as hl hr=>
   refine .Rc _ as (by simp [hl]) fun i x a h1 h2=> ?_
   rw [Ob,ia] at h1;obtain ⟨y,hy,rfl⟩:=h1;exact RV.yj h d (hr i y a hy h2)
variable [TB:sB]
def Hj (m:Mp) (z n:Nat) (f:Nat->List UV) (rows:List (List V.AV)):Prop:=
 (∀ i,i<n->(f i).length=z/\∀ x∈f i,closed 8 x=true)/\(∀ (i:Nat) (row:List V.AV),i<n->rows[i]?=some row->row.length=z)/\
 ∀ (i:Nat) (row:List V.AV) (c:Nat) (x:UV) (a:V.AV),i<n->rows[i]?=some row->(f i)[c]?=some x->row[c]?=some a->RV m x a
def Hh:(k:KT)->jd k->V.AV
 | .int k,i=> .int k i
 | .str,s=> .str s
def MR (k:KT) (m:Mp):List (jd k×UV)->List (V.AV×V.AV)->Prop
 |[],[]=>True
 |(i,v)::es,(key,a)::qd=>key=Hh k i/\RV m v a/\Nb 8 v=true/\MR k m es qd
 |_,_=>False
def Gj {k:KT} (g:Bool) (c:CT) (l:List (jd k×Eb c)):List (jd k×UV):=l.map fun p=>(p.1,valOf g c p.2)
def Ik (m:Mp) (Hv:V.AH) (o:Option Nat) (c:CT) (l:List (Eb c)) (a:V.AV):Prop:=
 (l.length=0/\o=none/\(a= .Wa\/a= .Kd))\/
  ∃ y rows ty,o=some y/\a= .sl y 0 l.length/\Hv.bl[y]?=some (.cells rows (width c) ty)/\l.length<=rows.length/\Hj m (width c) l.length (vw c l) rows
def RB (m:Mp) (Hv:V.AH) (b:Nat):UB->Prop
 | .dead=>True
 | .fb row=>∃ x Jb ty,m.ι b 0=some x/\Hv.bl[x]?=some (.cells [Jb] Jb.length ty)/\RL m row Jb
 | .cells c l=>m.len b 0=l.length/\((l.length=0/\m.ι b 0=none)\/∃ x rows ty,m.ι b 0=some x/\Hv.bl[x]?=some (.cells rows (width c) ty)/\l.length<=rows.length/\Hj m (width c) l.length (vw c l) rows)
 | .deep c l=>m.len b 0=l.length/\(∀ r,m.len b (r+1)=(l.getD r []).length/\(l.length<=r->m.ι b (r+1)=none))/\((l.length=0/\m.ι b 0=none)\/∃ x rows ty,m.ι b 0=some x/\Hv.bl[x]?=some (.cells rows 1 ty)/\l.length<=rows.length/\
  ∀ r,r<l.length->∃ a,rows[r]?=some [a]/\Ik m Hv (m.ι b (r+1)) c (l.getD r []) a)
 | .Nj k es=>∃ x qd,m.ι b 0=some x/\Hv.bl[x]?=some (.map qd)/\MR k m es qd
 | .ah k g c l=>∃ x qd,m.ι b 0=some x/\Hv.bl[x]?=some (.map qd)/\MR k m (Gj g c l) qd
 | .loop id env st pe=>∃ x Ul,m.ι b 0=some x/\Hv.bl[x]?=some (.loop (TB.rf id).n (ua (TB.rf id).n) Ul (TB.rf id).ps (TB.rf id).assign (TB.rf id).body st pe.jump)/\∀ t,match get (ve env) t,V.get (V.ve Ul) t with
   | .v y,.v a=>RV m y a
   |_,_=>False
 | .Fl q=>∃ x p q',m.ι b 0=some x/\Hv.bl[x]?=some (.cells [[p,q']] 2 (some (TB.bT,2)))/\(p= .De\/p= .ptr x 0 0)/\RV m q q'/\q'≠ .Kd
 | .ko s=>m.len b 0=s.size/\((s.size=0/\m.ι b 0=none)\/∃ x,m.ι b 0=some x/\Hv.bl[x]?=some (.cells (V.ic s) 1 (some (TB.uT,1)))/\0<s.size/\s.size<=70368744177664)
def live (H:UH) (b:Nat):Prop:=∃ x,H.bl[b]?=some x/\Sd x=true
structure RH (m:Mp) (H:UH) (Hv:V.AH):Prop where
 Ae:∀ b {s} x,m.ι b s=some x->b<H.bl.length/\x<Hv.bl.length
 Oc:∀ b y,H.bl[b]?=some y->RB m Hv b y
 zm:∀ b b' {s s'} x,live H b->live H b'->m.ι b s=some x->m.ι b' s'=some x->b=b'/\s=s'
 wm:∀ b {s} x,m.ι b s=some x->H.wm<=b->Hv.wm<=x
 top:Hv.wm<=Hv.bl.length
 len:m.top=H.bl.length
theorem RH.inj {m:Mp} {H:UH} {Hv:V.AH} (h:RH m H Hv) (b b':Nat) {s s':Nat} (x:Nat) (h1:live H b) (h2:live H b') (h3:m.ι b s=some x) (h4:m.ι b' s'=some x):b=b':=(h.zm b b' x h1 h2 h3 h4).1
def UR (n:Nat) (m m':Mp):Prop:=n<=m'.top/\∀ b,b<n->m'.ι b=m.ι b/\m'.len b=m.len b
structure Ej (n:Nat) (m:Mp) (Hv:V.AH) (m':Mp) (Ic:V.AH):Prop where
 gk:UR n m m'
 stay:∀ x,x<Hv.bl.length->(∀ b s,m.ι b s≠some x)->Ic.bl[x]?=Hv.bl[x]?
 new:∀ b {s} x,m'.ι b s=some x->(∃ b0 s0,m.ι b0 s0=some x)\/Hv.bl.length<=x
 len:Hv.bl.length<=Ic.bl.length
 wm:Ic.wm=Hv.wm
theorem UR.refl {n:Nat} {m:Mp} (h:n<=m.top):UR n m m:=⟨h,fun _ _=>⟨rfl,rfl⟩⟩
theorem UR.trans {n n':Nat} {m m1 m2:Mp} (h:UR n m m1) (h':UR n' m1 m2) (hn:n<=n'):UR n m m2:=⟨Ib hn h'.1,fun b hb=>⟨(h'.2 b (by omega)).1.trans (h.2 b hb).1,(h'.2 b (by omega)).2.trans (h.2 b hb).2⟩⟩
theorem UR.less {n n':Nat} {m m1:Mp} (h:UR n m m1) (hn:n'<=n):UR n' m m1:=⟨Ib hn h.1,fun b hb=>h.2 b (by omega)⟩
theorem Ej.refl {n:Nat} {m:Mp} (Hv:V.AH) (hn:n<=m.top):Ej n m Hv m Hv:=⟨.refl hn,fun _ _ _=>rfl,fun b _ x h=> .inl ⟨b,_,h⟩,oa _,rfl⟩
theorem Ej.less {n n':Nat} {m m1:Mp} {H H1:V.AH} (h:Ej n m H m1 H1) (hn:n'<=n):Ej n' m H m1 H1:=⟨h.gk.less hn,h.stay,h.new,h.len,h.wm⟩
theorem Ej.trans {n n':Nat} {m m1 m2:Mp} {H H1 H2:V.AH} (h:Ej n m H m1 H1) (h':Ej n' m1 H1 m2 H2) (hn:n<=n'):Ej n m H m2 H2 where
 gk:=h.gk.trans h'.gk hn
 stay x hx hn:=(h'.stay x (Za hx h.len) fun b s hb=>by
  rcases h.new b x hb with ⟨b0,s0,h0⟩|h0
  · exact hn b0 s0 h0
  · omega).trans (h.stay x hx hn)
 new b s x hb:=by
  rcases h'.new b x hb with ⟨b0,s0,h0⟩|h0
  · exact h.new b0 x h0
  · exact .inr (Ib h.len h0)
 len:=Ib h.len h'.len
 wm:=h'.wm.trans h.wm
def RS (m:Mp) (φ:Nat->Option Nat):US->V.SV->Prop
 | .v .Qb,_=>True
 | .v x,.v a=>RV m x a
 | .loc i c,.loc j c'=>φ i=some j/\c'=c
 |_,_=>False
structure RF (m:Mp) (φ:Nat->Option Nat) (F:List (List UV)) (Fv:List (List V.AV)):Prop where
 Ae:∀ i j,φ i=some j->i<F.length/\j<Fv.length
 row:∀ i row,F[i]?=some row->∃ j Jb,φ i=some j/\Fv[j]?=some Jb/\RL m row Jb
 inj:∀ i i' j,φ i=some j->φ i'=some j->i=i'
def RE (m:Mp) (φ:Nat->Option Nat) (e:List (Nat×US)) (ev:List (Nat×V.SV)):Prop:=∀ t,RS m φ (get e t) (V.get ev t)
structure Gl (m:Mp) (φ:Nat->Option Nat) (s:St) (sv:V.S):Prop where
 h:RH m s.H sv.H
 f:RF m φ s.F sv.F
 e:RE m φ s.e sv.e
 b:s.base<=s.H.bl.length
end Go.U
namespace Go.U
open Go
variable [TB:sB]
theorem Ua {α:Type} {l:List α} {i:Nat} {x:α} (h:l[i]?=some x):i<l.length:=by
 rcases Rb i l.length with h'|h'
 · exact h'
 · simp [mb h'] at h
section
variable {A:V.oh} {La:Nat->Option (List UV)} {m:Mp} {φ:Nat->Option Nat}
def xe (A:V.oh) (La:Nat->Option (List UV)):Prop:=∀ i row,La i=some row->∃ Jb,A.La i=some Jb/\∀ m,RV m (.Bd row) (.Bd Jb)
theorem Hw {v:Value} {x:UV} (h:Zi v=some x):∃ a,V.qe v=some a/\∀ m,RV m x a:=by
 unfold Zi at h;split at h<;>simp at h<;>subst h
 · exact ⟨_,rfl,fun _=> .bool _⟩
 · exact ⟨_,rfl,fun _=> .int _ _⟩
 · exact ⟨_,rfl,fun _=> .str _⟩
 · exact ⟨_,rfl,fun _=> .De⟩
 · exact ⟨_,rfl,fun _=> .Wa⟩
 · exact ⟨_,rfl,fun _=> .yf⟩
 · exact ⟨_,rfl,fun _=> .Te⟩
 · exact ⟨_,rfl,fun _=> .Cg⟩
theorem pG {v:Value} {x:UV} (h:Zi v=some x):closed 8 x=true:=by
 unfold Zi at h;split at h<;>simp at h<;>subst h<;>rfl
theorem cC {v:Value} {x:UV} (h:Zi v=some x):Nb 8 x=true:=by
 unfold Zi at h;split at h<;>simp at h<;>subst h<;>rfl
theorem RL.nil {m:Mp}:RL m [] []:=⟨rfl,fun i x a h=>by simp at h⟩
theorem RL.cons {m:Mp} {x:UV} {a:V.AV} {xs:List UV} {as:List V.AV} (h:RV m x a) (hs:RL m xs as):RL m (x::xs) (a::as):=
 ⟨by simp [hs.1],fun i y b h1 h2=>by
  cases i with
  |zero=>simp at h1 h2;subst h1;subst h2;exact h
  |succ i=>exact hs.2 i y b (by simpa using h1) (by simpa using h2)⟩
theorem RL.get {m:Mp} {xs:List UV} {as:List V.AV} (h:RL m xs as) {i:Nat} {x:UV} (hx:xs[i]?=some x):∃ a,as[i]?=some a/\RV m x a:=by
 have:=Ua hx;have ha:=ya (l:=as) (i:=i) (by rw [h.1];exact this);exact ⟨_,ha,h.2 i x _ hx ha⟩
theorem RL.drop {m:Mp} {xs:List UV} {as:List V.AV} (h:RL m xs as) (n:Nat):RL m (xs.drop n) (as.drop n):=
 ⟨by simp [h.1],fun i x a h1 h2=>h.2 (n+i) x a (by simpa [Dc] using h1) (by simpa [Dc] using h2)⟩
theorem RL.take {m:Mp} {xs:List UV} {as:List V.AV} (h:RL m xs as) (n:Nat):RL m (xs.take n) (as.take n):=
 ⟨by simp [h.1],fun i x a h1 h2=>by
  rw [Ab] at h1 h2;split at h1
  · rename_i hi;rw [if_pos hi] at h2;exact h.2 i x a h1 h2
  · simp at h1⟩
theorem RL.append {m:Mp} {xs ys:List UV} {as bs:List V.AV} (h:RL m xs as) (h':RL m ys bs):RL m (xs++ys) (as++bs):=
 ⟨by simp [h.1,h'.1],fun i x a h1 h2=>by
  rcases Rb i xs.length with hi|hi
  · rw [Fa hi] at h1;rw [Fa (by rw [h.1];exact hi)] at h2;exact h.2 i x a h1 h2
  · rw [Ka hi] at h1;rw [Ka (by rw [h.1];exact hi),h.1] at h2;exact h'.2 _ x a h1 h2⟩
theorem RL.set {m:Mp} {xs:List UV} {as:List V.AV} (h:RL m xs as) (i:Nat) {x:UV} {a:V.AV} (hx:RV m x a):RL m (xs.set i x) (as.set i a):=
 ⟨by simp [h.1],fun j y b h1 h2=>by
  rw [Kb] at h1 h2;split at h1
  · rename_i e;rw [if_pos e] at h2;split at h1
    · rename_i hl;rw [if_pos (by rw [h.1];exact hl)] at h2;simp at h1 h2;subst h1;subst h2;exact hx
    · simp at h1
  · rename_i e;rw [if_neg e] at h2;exact h.2 j y b h1 h2⟩
theorem RL.free {m:Mp} (m':Mp) {xs:List UV} {as:List V.AV} (h:RL m xs as) (hc:∀ x∈xs,closed 8 x=true):RL m' xs as:=
 ⟨h.1,fun i x a h1 h2=>(h.2 i x a h1 h2).free m' 8 (hc x (jb h1))⟩
theorem Gk:∀ {vs:List Value} {xs:List UV},Lc vs=some xs->∃ as,V.Lc vs=some as/\(∀ m,RL m xs as)/\∀ x∈xs,closed 8 x=true
 |[],xs,h=>by simp [Lc] at h;subst h;exact ⟨[],rfl,fun _=> .nil,fun x hx=>by simp at hx⟩
 |v::vs,xs,h=>by
  simp only [Lc,aa] at h;obtain ⟨x,hx,ys,dw,h⟩:=h;simp at h;subst h;obtain ⟨a,h1,h2⟩:=Hw hx;obtain ⟨as,h3,h4,h5⟩:=Gk dw;refine ⟨a::as,by simp [V.Lc,h1,h3],fun m=> .cons (h2 m) (h4 m),fun y hy=> ?_⟩;rcases oc.1 hy with rfl|hy
  · exact pG hx
  · exact h5 y hy
theorem Fo {t:TypeId} {z:List UV} (h:zero A t=some z):∃ z',V.zero A t=some z'/\(∀ m,RL m z z')/\∀ x∈z,closed 8 x=true:=by
 unfold zero at h;unfold V.zero;split at h
 · rename_i v hv;rw [hv];exact Gk h
 · simp at h
theorem FO {t:TypeId} {z:UV} (h:zeroV A t=some z):∃ z',V.zeroV A t=some z'/\(∀ m,RV m z z')/\Nb 8 z=true:=by
 unfold zeroV at h;unfold V.zeroV;split at h
 · rename_i cs hv;rw [hv];simp only [ia] at h;obtain ⟨xs,Fq,rfl⟩:=h;unfold Lc at Fq;have wac:Lc cs.toList=some xs:=by unfold Lc;exact Fq
   obtain ⟨as,h1,h2,h3⟩:=Gk wac;refine ⟨.agg as,by simp [h1],fun m=> .agg _ _ (h2 m).1 (h2 m).2,?_⟩;simp only [Nb,Yb];intro x hx;have h8:=h3 x hx;obtain ⟨i,hi⟩:=Yd hx;have uy:∀ {vs:List Value} {xs:List UV},Lc vs=some xs->∀ x∈xs,Nb 7 x=true:=by
    intro vs;induction vs with
    |nil=>intro xs h x hx;simp [Lc] at h;subst h;simp at hx
    |cons v vs ih=>
     intro xs h x hx;simp only [Lc,aa] at h;obtain ⟨y,hy,ys,dw,h⟩:=h;simp at h;subst h;rcases oc.1 hx with rfl|hx
     · unfold Zi at hy;split at hy<;>simp at hy<;>subst hy<;>rfl
     · exact ih dw x hx
   exact uy wac x hx
 · rename_i v Nc hv;obtain ⟨a,h1,h2⟩:=Hw h;refine ⟨a,?_,h2,cC h⟩;rw [hv];cases v<;>first|exact h1|(exfalso;exact Nc _ rfl)
 · simp at h
theorem yd (hg:xe A La) {e:List (Nat×US)} {ev:List (Nat×V.SV)} {x:Operand} {v:US} (h:operand La e x=some v) (he:RE m φ e ev):∃ vv,V.operand A ev x=some vv/\RS m φ v vv:=by
 have up:∀ {y:UV} {a:V.AV},RV m y a->RS m φ (.v y) (.v a):=fun {y a} h=>by cases y<;>first|trivial|exact h
 cases x with
 |tmp t=>simp [operand] at h;subst h;exact ⟨_,rfl,he t⟩
 |const c=>
  simp only [operand,ia] at h;obtain ⟨y,hy,rfl⟩:=h;obtain ⟨a,h1,h2⟩:=Hw hy;exact ⟨.v a,by simp [V.operand,h1],up (h2 m)⟩
 |global i=>
  simp only [operand,ia] at h;obtain ⟨row,hr,rfl⟩:=h;obtain ⟨Jb,h1,h2⟩:=hg i row hr;exact ⟨.v (.Bd Jb),by simp [V.operand,h1],up (h2 m)⟩
 |func f=>
  simp [operand] at h;subst h;exact ⟨.v (.fn f []),rfl,up (.fn f [] [] rfl fun i x a h=>by simp at h)⟩
theorem RS.val {x:UV} {vv:V.SV} (h:RS m φ (.v x) vv) (Nc:x≠ .Qb):∃ a,vv= .v a/\RV m x a:=by
 cases vv with
 |v a=>cases x<;>first|exact absurd rfl Nc|exact ⟨a,rfl,h⟩
 |loc i c=>cases x<;>first|exact absurd rfl Nc|exact h.elim
theorem RV.rs {x:UV} {a:V.AV} (h:RV m x a):RS m φ (.v x) (.v a):=by cases x<;>first|trivial|exact h
theorem Cz {e:List (Nat×US)} {x:Operand} {a:UV} (h:val La e x=some a):operand La e x=some (.v a)/\a≠ .Qb:=by
 unfold val at h;split at h
 · simp at h
 · rename_i y Nc hy;simp at h;subst h;exact ⟨hy,Nc⟩
 · simp at h
theorem Gc (hg:xe A La) {e:List (Nat×US)} {ev:List (Nat×V.SV)} {x:Operand} {a:UV} (h:val La e x=some a) (he:RE m φ e ev):∃ a',V.val A ev x=some a'/\RV m a a':=by
 obtain ⟨h1,h2⟩:=Cz h;obtain ⟨vv,h3,h4⟩:=yd hg h1 he;obtain ⟨a',rfl,h5⟩:=h4.val h2;exact ⟨a',by simp [V.val,h3],h5⟩
theorem Io (hg:xe A La) {e:List (Nat×US)} {ev:List (Nat×V.SV)} (he:RE m φ e ev):∀ {l:List Operand} {as:List UV},Pg La e l=some as->∃ Wl,V.Pg A ev l=some Wl/\RL m as Wl
 |[],as,h=>by simp [Pg] at h;subst h;exact ⟨[],rfl,.nil⟩
 |x::l,as,h=>by
  simp only [Pg,aa] at h;obtain ⟨a,ha,ys,dw,h⟩:=h;simp at h;subst h;obtain ⟨a',h1,h2⟩:=Gc hg ha he;obtain ⟨Wl,h3,h4⟩:=Io hg he dw;exact ⟨a'::Wl,by simp [V.Pg,h1,h3],.cons h2 h4⟩
def RP (m:Mp) (ps:List (Nat×UV)) (qs:List (Nat×V.AV)):Prop:=qs.map (·.1)=ps.map (·.1)/\RL m (ps.map (·.2)) (qs.map (·.2))
theorem uq (hg:xe A La) {e:List (Nat×US)} {ev:List (Nat×V.SV)} (he:RE m φ e ev):∀ {l:List (Nat×Operand)} {ps:List (Nat×UV)},parts La e l=some ps->∃ qs,V.parts A ev l=some qs/\RP m ps qs
 |[],ps,h=>by simp [parts] at h;subst h;exact ⟨[],rfl,rfl,.nil⟩
 |(i,x)::l,ps,h=>by
  simp only [parts,aa] at h;obtain ⟨a,ha,ys,dw,h⟩:=h;simp at h;subst h;obtain ⟨a',h1,h2⟩:=Gc hg ha he;obtain ⟨qs,h3,h4,h5⟩:=uq hg he dw;exact ⟨(i,a')::qs,by simp [V.parts,h1,h3],by simp [h4],.cons h2 h5⟩
theorem dr {x:UV} {a:V.AV} {cs:List UV} (h:x.cells?=some cs) (hx:RV m x a):∃ Bh,a.cells?=some Bh/\RL m cs Bh:=by
 have one:∀ {y:UV} {b:V.AV},RV m y b->cs=[y]->b.cells?=some [b]->∃ Bh,b.cells?=some Bh/\RL m cs Bh:=fun {y b} h1 h2 h3=>⟨_,h3,by rw [h2];exact .cons h1 .nil⟩
 cases hx with
 |Qb a=>simp [UV.cells?] at h
 |Rc cs as hl hr=>simp [UV.cells?] at h
 |agg cs as hl hr=>simp [UV.cells?] at h;subst h;exact ⟨as,rfl,hl,hr⟩
 |bool b=>simp [UV.cells?] at h;exact one (.bool b) h.symm rfl
 |int k n=>simp [UV.cells?] at h;exact one (.int k n) h.symm rfl
 |str s=>simp [UV.cells?] at h;exact one (.str s) h.symm rfl
 |De=>simp [UV.cells?] at h;exact one .De h.symm rfl
 |ptr b c x hb=>simp [UV.cells?] at h;exact one (.ptr b c x hb) h.symm rfl
 |Ml b r c x hb hr=>simp [UV.cells?] at h;exact one (.Ml b r c x hb hr) h.symm rfl
 |Bd row Jb hl hc hr=>simp [UV.cells?] at h;exact one (.Bd row Jb hl hc hr) h.symm rfl
 |Wa=>simp [UV.cells?] at h;exact one .Wa h.symm rfl
 |Kd=>simp [UV.cells?] at h;exact one .Kd h.symm rfl
 |sl b r n x hb hr=>simp [UV.cells?] at h;exact one (.sl b r n x hb hr) h.symm rfl
 |Jr b r a ha=>simp [UV.cells?] at h;exact one (.Jr b r a ha) h.symm (by rcases ha with rfl|rfl<;>rfl)
 |all b x hb=>simp [UV.cells?] at h;exact one (.all b x hb) h.symm rfl
 |Nf b a hb hl ha=>simp [UV.cells?] at h;exact one (.Nf b a hb hl ha) h.symm (by rcases ha with rfl|rfl<;>rfl)
 |cr b r x hb=>simp [UV.cells?] at h;exact one (.cr b r x hb) h.symm rfl
 |Ts b r a hb hl ha=>simp [UV.cells?] at h;exact one (.Ts b r a hb hl ha) h.symm (by rcases ha with rfl|rfl<;>rfl)
 |Ao b r j c x hb hr=>simp [UV.cells?] at h;exact one (.Ao b r j c x hb hr) h.symm rfl
 |lit c l rows h1 h2 h3=>simp [UV.cells?] at h;exact one (.lit c l rows h1 h2 h3) h.symm rfl
 |Qh c a ha=>simp [UV.cells?] at h;exact one (.Qh c a ha) h.symm (by rcases ha with rfl|rfl<;>rfl)
 |yf=>simp [UV.cells?] at h;exact one .yf h.symm rfl
 |mp b x hb=>simp [UV.cells?] at h;exact one (.mp b x hb) h.symm rfl
 |Te=>simp [UV.cells?] at h;exact one .Te h.symm rfl
 |fn f Bh as hl hr=>simp [UV.cells?] at h;exact one (.fn f Bh as hl hr) h.symm rfl
 |yl b x hb=>simp [UV.cells?] at h;exact one (.yl b x hb) h.symm rfl
 |Cg=>simp [UV.cells?] at h;exact one .Cg h.symm rfl
theorem Yf {t:TypeId} {row:List UV} {Jb:List V.AV} {c:Nat} {x:UV} (h:part A t row c=some x) (hr:RL m row Jb):∃ a,V.part A t Jb c=some a/\RV m x a:=by
 unfold part at h;unfold V.part;cases ha:V.isAgg A t with
 |none=>simp [ha] at h
 |some b=>
  simp only [ha,da] at h ⊢;cases b with
  |true=>
   simp only [aa] at h ⊢;obtain ⟨n,hn,h⟩:=h;split at h
   · rename_i hle;simp at h;subst h;refine ⟨.agg ((Jb.drop c).take n),⟨n,hn,by rw [if_pos (by rw [hr.1];exact hle)]⟩,.agg _ _ ((hr.drop c).take n).1 ((hr.drop c).take n).2⟩
   · simp at h
  |false=>exact hr.get h
theorem uk {row new nf:List UV} {Jb iac:List V.AV} {c:Nat} (h:kf row c new=some nf) (hr:RL m row Jb) (hn:RL m new iac):∃ qg,V.kf Jb c iac=some qg/\RL m nf qg/\nf.length=row.length:=by
 unfold kf at h;unfold V.kf;split at h
 · rename_i hle;simp at h;subst h;refine ⟨_,by rw [if_pos (by rw [hn.1,hr.1];exact hle)],?_,by simp;omega⟩;rw [hn.1];exact (hr.take c).append (hn.append (hr.drop _))
 · simp at h
theorem RL.Oh {x:UV} {xs:List UV} {as:List V.AV} (h:RL m (x::xs) as):∃ a Wl,as=a::Wl/\RV m x a/\RL m xs Wl:=by
 cases as with
 |nil=>have:=h.1;simp at this
 |cons a as=>exact ⟨a,as,rfl,h.2 0 x a rfl rfl,by have:=h.1;simpa using this,fun i y b k1 k2=>h.2 (i+1) y b (by simpa using k1) (by simpa using k2)⟩
theorem nG:∀ (c:CT) (cs:List UV) (x:Eb c) (r:List UV),dec c cs=some (x,r)->∀ {as:List V.AV},RL m cs as->∃ N7 M7,as=N7++M7/\RL m (enc c x) N7/\RL m r M7
 | .bool,[],x,r,h,as,ha=>by simp [dec] at h
 | .bool,v::cs,x,r,h,as,ha=>by
  cases v<;>simp [dec] at h
  obtain ⟨rfl,rfl⟩:=h;obtain ⟨a,Wl,rfl,h1,h2⟩:=ha.Oh;exact ⟨[a],Wl,rfl,.cons h1 .nil,h2⟩
 | .int k,[],x,r,h,as,ha=>by simp [dec] at h
 | .int k,v::cs,x,r,h,as,ha=>by
  cases v<;>simp [dec] at h
  obtain ⟨rfl,rfl,rfl⟩:=h;obtain ⟨a,Wl,rfl,h1,h2⟩:=ha.Oh;exact ⟨[a],Wl,rfl,.cons h1 .nil,h2⟩
 | .str,[],x,r,h,as,ha=>by simp [dec] at h
 | .str,v::cs,x,r,h,as,ha=>by
  cases v<;>simp [dec] at h
  obtain ⟨rfl,rfl⟩:=h;obtain ⟨a,Wl,rfl,h1,h2⟩:=ha.Oh;exact ⟨[a],Wl,rfl,.cons h1 .nil,h2⟩
 | .slice c,[],x,r,h,as,ha=>by simp [dec] at h
 | .slice c,v::cs,x,r,h,as,ha=>by
  obtain ⟨a,Wl,rfl,h1,h2⟩:=ha.Oh;have fin:∀ {x':List (Eb c)},some (x',cs)=some (x,r)->RV m (.lit c x') a->∃ N7 M7,a::Wl=N7++M7/\RL m (enc (.slice c) x) N7/\RL m r M7:=fun {x'} he hv=>by
   injection he with he
   injection he with e1 e2
   subst e1;subst e2;exact ⟨[a],Wl,rfl,.cons hv .nil,h2⟩
  cases v with
  |lit c' l=>
   have h:(if h:c'=c then some ((h ▸ l:List (Eb c)),cs) else none)=some (x,r):=h;split at h
   · rename_i hc;subst hc;exact fin h h1
   · simp at h
  |Wa=>exact fin h (by cases h1;exact .Qh c _ (.inl rfl))
  |Kd=>exact fin h (by cases h1;exact .Qh c _ (.inr rfl))
  |_=>simp [dec] at h
 | .pair a b,cs,x,r,h,as,ha=>by
  simp only [dec,aa] at h;obtain ⟨⟨x1,r1⟩,h1,⟨x2,r2⟩,h2,h⟩:=h;simp at h;obtain ⟨rfl,rfl⟩:=h;obtain ⟨N7,M7,rfl,k1,k2⟩:=nG a cs x1 r1 h1 ha;obtain ⟨as3,as4,rfl,k3,k4⟩:=nG b r1 x2 _ h2 k2;exact ⟨N7++as3,as4,(od ..).symm,k1.append k3,k4⟩
theorem Jm {c:CT} {cs:List UV} {x:Eb c} (h:oG c cs=some x) {as:List V.AV} (ha:RL m cs as):RL m (enc c x) as:=by
 unfold oG at h;split at h
 · rename_i y hy;simp at h;subst h;obtain ⟨N7,M7,rfl,k1,k2⟩:=nG c cs y [] hy ha;have:M7=[]:=by have:=k2.1;simpa using this
   subst this
   simpa using k1
 · simp at h
theorem TI {c:CT}:∀ {rs:List (List UV)} {l:List (Eb c)},DY c rs=some l->l.length=rs.length/\∀ (i:Nat) (r:List UV),rs[i]?=some r->∀ {as:List V.AV},RL m r as->RL m (vw c l i) as
 |[],l,h=>by simp [DY] at h;subst h;exact ⟨rfl,fun i r h=>by simp at h⟩
 |r::rs,l,h=>by
  simp only [DY,aa] at h;obtain ⟨x,hx,l',hl,h⟩:=h;simp at h;subst h;obtain ⟨h1,h2⟩:=TI hl;refine ⟨by simp [h1],fun i r' hi as ha=> ?_⟩;cases i with
  |zero=>simp at hi;subst hi;exact Jm hx ha
  |succ i=>exact h2 i r' (by simpa using hi) ha
end
end Go.U
namespace Go.U
open Go
variable [TB:sB]
def Mp.Fi (m:Mp) (b:Nat) (f:Nat->Option Nat) (g:Nat->Nat):Mp:={ ι:=fun i=>if i=b then f else m.ι i,len:=fun i=>if i=b then g else m.len i,top:=b+1 }
def f0 (x:Option Nat) (s:Nat):Option Nat:=if s=0 then x else none
theorem kz {x:Option Nat} {s xv:Nat} (h:f0 x s=some xv):s=0/\x=some xv:=by
 unfold f0 at h;split at h
 · rename_i e;exact ⟨e,h⟩
 · simp at h
def Mp.add (m:Mp) (b:Nat) (x:Option Nat) (n:Nat):Mp:=m.Fi b (f0 x) fun _=>n
theorem Vg (m:Mp) (b:Nat) (f:Nat->Option Nat) (g:Nat->Nat):(m.Fi b f g).ι b=f:=by simp [Mp.Fi]
theorem fq (m:Mp) (b:Nat) (f:Nat->Option Nat) (g:Nat->Nat):(m.Fi b f g).len b=g:=by simp [Mp.Fi]
theorem Ye (m:Mp) {b b':Nat} (f:Nat->Option Nat) (g:Nat->Nat) (h:b'≠b):(m.Fi b f g).ι b'=m.ι b':=by simp [Mp.Fi,h]
theorem vj (m:Mp) {b b':Nat} (f:Nat->Option Nat) (g:Nat->Nat) (h:b'≠b):(m.Fi b f g).len b'=m.len b':=by simp [Mp.Fi,h]
theorem Vd (m:Mp) (b:Nat) (x:Option Nat) (n:Nat):(m.add b x n).ι b 0=x:=by rw [Mp.add,Vg];rfl
theorem zi {m:Mp} {b:Nat} {x:Option Nat} {n s xv:Nat} (h:(m.add b x n).ι b s=some xv):s=0/\x=some xv:=by rw [Mp.add,Vg] at h;exact kz h
theorem xd (m:Mp) (b:Nat) (x:Option Nat) (n:Nat):(m.add b x n).len b 0=n:=by rw [Mp.add,fq]
theorem vf (m:Mp) {b b':Nat} (x:Option Nat) (n:Nat) (h:b'≠b):(m.add b x n).ι b'=m.ι b':=Ye m _ _ h
theorem cM (m:Mp) {b b':Nat} (x:Option Nat) (n:Nat) (h:b'≠b):(m.add b x n).len b'=m.len b':=vj m _ _ h
section
variable {m:Mp} {H:UH} {Hv Ic:V.AH}
theorem Ac (Hv:V.AH) (x x':Nat) (y:V.AB):(V.Ma Hv x y).bl[x']?=if x=x' then (if x<Hv.bl.length then some y else none) else Hv.bl[x']?:=by
 simp only [V.Ma,Kb]
theorem Ft (H:UH) (b b':Nat) (y:UB):(Ma H b y).bl[b']?=if b=b' then (if b<H.bl.length then some y else none) else H.bl[b']?:=by
 simp only [Ma,Kb]
theorem tC (H:UH) (y:UB) (b:Nat):(push H y).bl[b]?=if b<H.bl.length then H.bl[b]? else if b=H.bl.length then some y else none:=by
 simp only [push];rcases Nat.lt_trichotomy b H.bl.length with h|h|h
 · simp [h,Fa]
 · subst h;simp
 · rw [Ka (by omega),if_neg (by omega),if_neg (by omega)];exact mb (by simp;omega)
theorem Be (H:V.AH) (y:V.AB) (b:Nat):(V.push H y).bl[b]?=if b<H.bl.length then H.bl[b]? else if b=H.bl.length then some y else none:=by
 simp only [V.push];rcases Nat.lt_trichotomy b H.bl.length with h|h|h
 · simp [h,Fa]
 · subst h;simp
 · rw [Ka (by omega),if_neg (by omega),if_neg (by omega)];exact mb (by simp;omega)
theorem MR.mono {k:KT} {m m':Mp} (hle:m.Le m'):∀ {es:List (jd k×UV)} {qd:List (V.AV×V.AV)},MR k m es qd->MR k m' es qd
 |[],[],_=>trivial
 |(_,_)::_,(_,_)::_,h=>⟨h.1,h.2.1.mono hle,h.2.2.1,h.2.2.2.mono hle⟩
 |[],_::_,h=>h.elim
 |_::_,[],h=>h.elim
theorem Ik.keep {m m':Mp} {o:Option Nat} {c:CT} {l:List (Eb c)} {a:V.AV} (h:Ik m Hv o c l a) (hf:∀ x y,closed 8 x=true->RV m x y->RV m' x y) (Wb:∀ x,o=some x->Ic.bl[x]?=Hv.bl[x]?):Ik m' Ic o c l a:=by
 rcases h with ⟨h1,h2,h3⟩|⟨y,rows,ty,h1,h2,h3,h4,h5,h6,h7⟩
 · exact .inl ⟨h1,h2,h3⟩
 · exact .inr ⟨y,rows,ty,h1,h2,by rw [Wb y h1];exact h3,h4,h5,h6,fun i row c y a k0 k1 k2 k3=>hf y a ((h5 i k0).2 y (jb k2)) (h7 i row c y a k0 k1 k2 k3)⟩
theorem RB.keep {m m':Mp} {b:Nat} {y:UB} (h:RB m Hv b y) (hle:m.Le m') (eo:m'.ι b=m.ι b) (hl:m'.len b=m.len b) (Wb:Sd y=true->∀ {s} x,m.ι b s=some x->Ic.bl[x]?=Hv.bl[x]?):RB m' Ic b y:=by
 cases y with
 |dead=>trivial
 |fb row=>
  obtain ⟨x,Jb,ty,h1,h2,h3⟩:=h;exact ⟨x,Jb,ty,by rw [eo];exact h1,by rw [Wb rfl x h1];exact h2,h3.mono hle⟩
 |Fl q=>
  obtain ⟨x,p,q',h1,h2,h3,h4,h5⟩:=h;exact ⟨x,p,q',by rw [eo];exact h1,by rw [Wb rfl x h1];exact h2,h3,h4.mono hle,h5⟩
 |ko s=>
  obtain ⟨h1,h2⟩:=h;refine ⟨by rw [hl];exact h1,?_⟩;rcases h2 with ⟨h2,h3⟩|⟨x,h2,h3,h4⟩
  · exact .inl ⟨h2,by rw [eo];exact h3⟩
  · exact .inr ⟨x,by rw [eo];exact h2,by rw [Wb rfl x h2];exact h3,h4⟩
 |cells c l=>
  obtain ⟨h1,h2⟩:=h;refine ⟨by rw [hl];exact h1,?_⟩;rcases h2 with ⟨h2,h3⟩|⟨x,rows,ty,h2,h3,h4,h5,h6,h7⟩
  · exact .inl ⟨h2,by rw [eo];exact h3⟩
  · exact .inr ⟨x,rows,ty,by rw [eo];exact h2,by rw [Wb rfl x h2];exact h3,h4,h5,h6,fun i row c y a k0 k1 k2 k3=>(h7 i row c y a k0 k1 k2 k3).mono hle⟩
 |deep c l=>
  obtain ⟨h1,h0,h2⟩:=h;refine ⟨by rw [hl];exact h1,fun r=>by rw [hl,eo];exact h0 r,?_⟩;rcases h2 with ⟨h2,h3⟩|⟨x,rows,ty,h2,h3,h4,h5⟩
  · exact .inl ⟨h2,by rw [eo];exact h3⟩
  · refine .inr ⟨x,rows,ty,by rw [eo];exact h2,by rw [Wb rfl x h2];exact h3,h4,fun r hr=> ?_⟩;obtain ⟨a,k1,k2⟩:=h5 r hr;rw [eo];exact ⟨a,k1,k2.keep (fun _ _ _ h=>h.mono hle) (fun x hx=>Wb rfl x hx)⟩
 |Nj k es=>
  obtain ⟨x,qd,h1,h2,h3⟩:=h;exact ⟨x,qd,by rw [eo];exact h1,by rw [Wb rfl x h1];exact h2,h3.mono hle⟩
 |ah k g c l=>
  obtain ⟨x,qd,h1,h2,h3⟩:=h;exact ⟨x,qd,by rw [eo];exact h1,by rw [Wb rfl x h1];exact h2,h3.mono hle⟩
 |loop id env st pe=>
  obtain ⟨x,Ul,h1,h2,h3⟩:=h;refine ⟨x,Ul,by rw [eo];exact h1,by rw [Wb rfl x h1];exact h2,fun t=> ?_⟩;have:=h3 t
  revert this
  split
  · exact fun h=>h.mono hle
  · exact fun h=>h
theorem ag {b b':Nat} {y:UB} (h:live (Ma H b y) b'):(b'=b/\Sd y=true)\/(b'≠b/\live H b'):=by
 obtain ⟨x,hx,hl⟩:=h;rw [Ft] at hx;split at hx
 · rename_i e;split at hx
   · simp at hx;subst hx;exact .inl ⟨e.symm,hl⟩
   · simp at hx
 · rename_i e;exact .inr ⟨fun e'=>e e'.symm,x,hx,hl⟩
theorem RH.Vab (h:RH m H Hv) {b x s0:Nat} {y:UB} {yv:V.AB} (hb:live H b) (hx:m.ι b s0=some x) (hy:RB m (V.Ma Hv x yv) b y):RH m (Ma H b y) (V.Ma Hv x yv)/\Ej m.top m Hv m (V.Ma Hv x yv):=by
 refine ⟨⟨fun b' s x' zd=> ?_,fun b' y' If=> ?_,fun b1 b2 s s' x' h1 h2 e1 e2=> ?_,h.wm,by simpa [V.Ma] using h.top,by simpa [Ma] using h.len⟩,⟨.refl (oa _),fun x' jk hn=> ?_,fun b' s x' zd=> .inl ⟨b',s,zd⟩,by simp [V.Ma],rfl⟩⟩
 · have:=h.Ae b' x' zd;simpa [Ma,V.Ma] using this
 · rw [Ft] at If;split at If
   · rename_i e;subst e;split at If
     · simp at If;subst If;exact hy
     · simp at If
   · rename_i e;refine (h.Oc b' y' If).keep (.refl m) rfl rfl fun hl s x' jk=> ?_
     rw [Ac,if_neg]
     rintro rfl
     exact e (h.inj b b' x hb ⟨y',If,hl⟩ hx jk)
 · have k1:live H b1:=by rcases ag h1 with ⟨rfl,_⟩|⟨_,h⟩<;>assumption
   have k2:live H b2:=by rcases ag h2 with ⟨rfl,_⟩|⟨_,h⟩<;>assumption
   exact h.zm b1 b2 x' k1 k2 e1 e2
 · rw [Ac,if_neg (fun e=>hn b s0 (by rw [<- e];exact hx))]
theorem RH.set (h:RH m H Hv) {b x:Nat} {y:UB} {yv:V.AB} (hb:live H b) (hx:m.ι b 0=some x) (hy:RB m (V.Ma Hv x yv) b y):RH m (Ma H b y) (V.Ma Hv x yv)/\Ej m.top m Hv m (V.Ma Hv x yv):=h.Vab hb hx hy
theorem RH.kill (h:RH m H Hv) (b:Nat):RH m (Ma H b .dead) Hv:=by
 refine ⟨fun b' s x' zd=>by simpa [Ma] using h.Ae b' x' zd,fun b' y' If=> ?_,fun b1 b2 s s' x' h1 h2 e1 e2=> ?_,h.wm,h.top,by simpa [Ma] using h.len⟩
 · rw [Ft] at If;split at If
   · split at If
     · simp at If;subst If;trivial
     · simp at If
   · exact h.Oc b' y' If
 · have k:∀ {b'},live (Ma H b .dead) b'->live H b':=fun h=>by rcases ag h with ⟨_,h'⟩|⟨_,h⟩;simp [Sd] at h';exact h
   exact h.zm b1 b2 x' (k h1) (k h2) e1 e2
theorem RH.other (h:RH m H Hv) {x:Nat} (hx:∀ b s,live H b->m.ι b s≠some x) (yv:V.AB):RH m H (V.Ma Hv x yv):=by
 refine ⟨fun b' s x' zd=>by simpa [V.Ma] using h.Ae b' x' zd,fun b' y' If=> ?_,h.zm,h.wm,by simpa [V.Ma] using h.top,h.len⟩;refine (h.Oc b' y' If).keep (.refl m) rfl rfl fun hl s x' jk=> ?_
 rw [Ac,if_neg]
 rintro rfl
 exact hx b' s ⟨y',If,hl⟩ jk
theorem RH.alike (h:RH m H Hv) (Wb:∀ b {s} x,live H b->m.ι b s=some x->Ic.bl[x]?=Hv.bl[x]?) (hlen:Ic.bl.length=Hv.bl.length) (Of:Ic.wm=Hv.wm):RH m H Ic:=by
 refine ⟨fun b' s x' zd=>by rw [hlen];exact h.Ae b' x' zd,fun b' y' If=> ?_,h.zm,by rw [Of];exact h.wm,by rw [hlen,Of];exact h.top,h.len⟩;exact (h.Oc b' y' If).keep (.refl m) rfl rfl fun hl s x' jk=>Wb b' x' ⟨y',If,hl⟩ jk
theorem yO (h:RH m H Hv) (f:Nat->Option Nat) (g:Nat->Nat):m.Le (m.Fi H.bl.length f g):=⟨fun b s x' hb=>by
 have:=(h.Ae b x' hb).1;rw [Ye m f g (by omega),vj m f g (by omega)];exact ⟨hb,rfl⟩,by have:=h.len;simp [Mp.Fi];omega,fun b hb=>by have:=h.len;rw [vj m f g (by omega)]⟩
theorem dM (h:RH m H Hv) (x:Option Nat) (n:Nat):m.Le (m.add H.bl.length x n):=yO h _ _
theorem dJ (h:RH m H Hv) (f:Nat->Option Nat) (g:Nat->Nat):UR m.top m (m.Fi H.bl.length f g):=⟨by simp [Mp.Fi];have:=h.len;omega,fun b hb=>by
 have:=h.len;exact ⟨Ye m f g (by omega),vj m f g (by omega)⟩⟩
theorem tg (h:RH m H Hv) (x:Option Nat) (n:Nat):UR m.top m (m.add H.bl.length x n):=dJ h _ _
theorem RH.S4 (h:RH m H Hv) {y:UB} {f:Nat->Option Nat} {g:Nat->Nat} (Wb:∀ b {s} x',live H b->m.ι b s=some x'->Ic.bl[x']?=Hv.bl[x']?) (hlen:Hv.bl.length<=Ic.bl.length) (Of:Ic.wm=Hv.wm)
   (hx:∀ s xv,f s=some xv->xv<Ic.bl.length/\Hv.wm<=xv/\∀ b s',live H b->m.ι b s'≠some xv) (hfi:∀ s s' xv,f s=some xv->f s'=some xv->s=s') (hy:RB (m.Fi H.bl.length f g) Ic H.bl.length y):
   RH (m.Fi H.bl.length f g) (U.push H y) Ic/\m.Le (m.Fi H.bl.length f g):=by
 have hle:=yO h f g;have lK:∀ {b},live (U.push H y) b->b=H.bl.length\/live H b:=fun {b} ⟨y',If,hl⟩=>by
   rw [tC] at If;split at If
   · exact .inr ⟨y',If,hl⟩
   · split at If
     · rename_i e;exact .inl e
     · simp at If
 have Nc:∀ {b},live H b->b≠H.bl.length:=fun {b} ⟨y',If,_⟩=>by have:=Ua If;omega
 refine ⟨⟨fun b s x' hb=> ?_,fun b y' If=> ?_,fun b1 b2 s s' x' h1 h2 e1 e2=> ?_,fun b s x' hb hw=> ?_,by rw [Of];exact Ib h.top hlen,by simp [Mp.Fi,U.push]⟩,hle⟩
 · by_cases e:b=H.bl.length
   · subst e;rw [Vg] at hb;exact ⟨by simp [U.push],(hx s x' hb).1⟩
   · rw [Ye m f g e] at hb;have:=h.Ae b x' hb;exact ⟨by simp [U.push];omega,by omega⟩
 · rw [tC] at If;split at If
   · rename_i nc;exact (h.Oc b y' If).keep hle (Ye m f g (by omega)) (vj m f g (by omega)) fun hl s x' jk=>Wb b x' ⟨y',If,hl⟩ jk
   · split at If
     · rename_i e;simp at If;subst If;subst e;exact hy
     · simp at If
 · rcases lK h1 with rfl|l1<;>rcases lK h2 with rfl|l2
   · rw [Vg] at e1 e2;exact ⟨rfl,hfi s s' x' e1 e2⟩
   · rw [Vg] at e1;rw [Ye m f g (Nc l2)] at e2;exact absurd e2 ((hx s x' e1).2.2 b2 s' l2)
   · rw [Vg] at e2;rw [Ye m f g (Nc l1)] at e1;exact absurd e1 ((hx s' x' e2).2.2 b1 s l1)
   · rw [Ye m f g (Nc l1)] at e1;rw [Ye m f g (Nc l2)] at e2;exact h.zm b1 b2 x' l1 l2 e1 e2
 · rw [Of];by_cases e:b=H.bl.length
   · subst e;rw [Vg] at hb;exact (hx s x' hb).2.1
   · rw [Ye m f g e] at hb;exact h.wm b x' hb hw
theorem RH.push (h:RH m H Hv) {y:UB} {x:Option Nat} {n:Nat} (Wb:∀ b {s} x',live H b->m.ι b s=some x'->Ic.bl[x']?=Hv.bl[x']?) (hlen:Hv.bl.length<=Ic.bl.length) (Of:Ic.wm=Hv.wm)
  (hx:∀ xv,x=some xv->xv<Ic.bl.length/\Hv.wm<=xv/\∀ b s,live H b->m.ι b s≠some xv) (hy:RB (m.add H.bl.length x n) Ic H.bl.length y):
  RH (m.add H.bl.length x n) (U.push H y) Ic/\m.Le (m.add H.bl.length x n):=
 h.S4 Wb hlen Of (fun s xv e=>hx xv (kz e).2) (fun s s' xv e e'=>by rw [(kz e).1,(kz e').1]) hy
theorem RH.new (h:RH m H Hv) {y:UB} {yv:V.AB} {n:Nat} (hy:RB (m.add H.bl.length (some Hv.bl.length) n) (V.push Hv yv) H.bl.length y):
   RH (m.add H.bl.length (some Hv.bl.length) n) (U.push H y) (V.push Hv yv)/\m.Le (m.add H.bl.length (some Hv.bl.length) n)/\Ej m.top m Hv (m.add H.bl.length (some Hv.bl.length) n) (V.push Hv yv):=by
 have h1:=h.push (Ic:=V.push Hv yv) (y:=y) (x:=some Hv.bl.length) (n:=n) (fun b s x' hl hb=>by rw [Be,if_pos (h.Ae b x' hb).2]) (by simp [V.push]) rfl
   (fun xv e=>by
    simp at e;subst e;exact ⟨by simp [V.push],h.top,fun b s _ hb=>by have:=(h.Ae b _ hb).2;omega⟩) hy
 refine ⟨h1.1,h1.2,⟨tg h _ _,fun x hx _=>by rw [Be,if_pos hx],fun b s x hb=> ?_,by simp [V.push],rfl⟩⟩;by_cases e:b=H.bl.length
 · subst e;obtain ⟨_,e⟩:=zi hb;simp at e;subst e;exact .inr (oa _)
 · rw [vf _ _ _ e] at hb;exact .inl ⟨b,s,hb⟩
theorem SY {m:Mp} {b0:Nat} {f:Nat->Option Nat} {g:Nat->Nat} {N:Nat} (hf:∀ s x,f s=some x->(∃ b1 s1,m.ι b1 s1=some x)\/N<=x) (b:Nat) {s:Nat} (x:Nat) (hb:(m.Fi b0 f g).ι b s=some x):(∃ b1 s1,m.ι b1 s1=some x)\/N<=x:=by
 by_cases e:b=b0
 · subst e;rw [Vg] at hb;exact hf s x hb
 · rw [Ye _ _ _ e] at hb;exact .inl ⟨b,s,hb⟩
def ND (x:Nat) (F:Nat->Option Nat):Nat->Option Nat
 |0=>some x
 |r+1=>F r
def J7 {c:CT} (L:List (List (Eb c))):Nat->Nat
 |0=>L.length
 |r+1=>(L.getD r []).length
theorem RH.uM (hh:RH m H Hv) {c:CT} {L:List (List (Eb c))} {rows:List (List V.AV)} {ty:Option (TypeId×Nat)} {F:Nat->Option Nat} (YC:rows.length=L.length)
   (hF:∀ r x,F r=some x->(∃ b s,m.ι b s=some x)/\Hv.wm<=x/\∀ b s,live H b->m.ι b s≠some x) (hFi:∀ r r' x,F r=some x->F r'=some x->r=r') (hFo:∀ r,L.length<=r->F r=none)
   (Zc:∀ r,r<L.length->∃ a,rows[r]?=some [a]/\Ik m Hv (F r) c (L.getD r []) a):
   ∃ m',RH m' (U.push H (.deep c L)) (V.push Hv (.cells rows 1 ty))/\RV m' (.all H.bl.length) (.sl Hv.bl.length 0 L.length)/\m.Le m'/\Ej m.top m Hv m' (V.push Hv (.cells rows 1 ty)):=by
 have nc:∀ r x,F r=some x->x<Hv.bl.length:=fun r x h=>by
   obtain ⟨b,s,h1⟩:=(hF r x h).1;exact (hh.Ae b x h1).2
 have h1:=hh.S4 (Ic:=V.push Hv (.cells rows 1 ty)) (y:= .deep c L) (f:=ND Hv.bl.length F) (g:=J7 L) (fun b s x' hl hb=>by rw [Be,if_pos (hh.Ae b x' hb).2]) (by simp [V.push]) rfl
   (fun s xv e=>by
    cases s with
    |zero=>
     simp [ND] at e;subst e;exact ⟨by simp [V.push],hh.top,fun b s _ hb=>by have:=(hh.Ae b _ hb).2;omega⟩
    |succ r=>
     have e:F r=some xv:=e;exact ⟨by have:=nc r xv e;simp [V.push];omega,(hF r xv e).2.1,(hF r xv e).2.2⟩)
   (fun s s' xv e e'=>by
    cases s with
    |zero=>
     cases s' with
     |zero=>rfl
     |succ r'=>
      have e':F r'=some xv:=e';have:=nc r' xv e';simp [ND] at e;omega
    |succ r=>
     have e:F r=some xv:=e;cases s' with
     |zero=>have:=nc r xv e;simp [ND] at e';omega
     |succ r'=>
      have e':F r'=some xv:=e';rw [hFi r r' xv e e'])
   (by
    refine ⟨by rw [fq];rfl,fun r=>⟨by rw [fq];rfl,fun hr=>by rw [Vg];exact hFo r hr⟩,.inr ⟨Hv.bl.length,rows,ty,by rw [Vg];rfl,by rw [Be,if_neg (by omega),if_pos rfl],by omega,fun r hr=> ?_⟩⟩;obtain ⟨a,k1,k2⟩:=Zc r hr;refine ⟨a,k1,?_⟩;rw [Vg];exact k2.keep (fun x y hc h=>h.free _ 8 hc) fun x hx=>by rw [Be,if_pos (nc r x hx)])
 refine ⟨_,h1.1,?_,h1.2,⟨dJ hh _ _,fun x hx _=>by rw [Be,if_pos hx],fun b s x hb=>SY (fun s x e=> ?_) b x hb,by simp [V.push],rfl⟩⟩
 · have:=RV.all (m:=m.Fi H.bl.length (ND Hv.bl.length F) (J7 L)) H.bl.length Hv.bl.length (by rw [Vg];rfl);rw [fq] at this;exact this
 · cases s with
   |zero=>simp [ND] at e;subst e;exact .inr (oa _)
   |succ r=>exact .inl (hF r x e).1
end
end Go.U
namespace Go.U
open Go
variable [TB:sB]
section
variable {A:V.oh} {La:Nat->Option (List UV)} {m:Mp} {φ:Nat->Option Nat} {s:St} {sv:V.S} {X:Type} {out:X}
theorem Hj.row {z n:Nat} {f:Nat->List UV} {rows:List (List V.AV)} (h:Hj m z n f rows) (hn:n<=rows.length) {i:Nat} (hi:i<n):∃ row,rows[i]?=some row/\RL m (f i) row/\row.length=z:=by
 have hr:=ya (l:=rows) (i:=i) (by omega);have hz:=h.2.1 i _ hi hr;exact ⟨_,hr,⟨by rw [hz,(h.1 i hi).1],fun c x a h1 h2=>h.2.2 i _ c x a hi hr h1 h2⟩,hz⟩
theorem uc (h:RH m s.H sv.H) {b:Nat} {c:CT} {l:List (Eb c)} (hb:s.H.bl[b]?=some (.cells c l)):m.len b 0=l.length/\∀ x,m.ι b 0=some x->∃ rows ty,sv.H.bl[x]?=some (.cells rows (width c) ty)/\l.length<=rows.length/\Hj m (width c) l.length (vw c l) rows:=by
 obtain ⟨h1,h2⟩:=h.Oc b _ hb;refine ⟨h1,fun x hx=> ?_⟩;rcases h2 with ⟨_,h3⟩|⟨x',rows,ty,h3,h4,h5,h6⟩
 · rw [hx] at h3;simp at h3
 · rw [hx] at h3;simp at h3;subst h3;exact ⟨rows,ty,h4,h5,h6⟩
theorem Od (h:RH m s.H sv.H) {b:Nat} {c:CT} {l:List (List (Eb c))} (hb:s.H.bl[b]?=some (.deep c l)):m.len b 0=l.length/\(∀ r,m.len b (r+1)=(l.getD r []).length)/\∀ x,m.ι b 0=some x->∃ rows ty,sv.H.bl[x]?=some (.cells rows 1 ty)/\l.length<=rows.length/\
   ∀ r,r<l.length->∃ a,rows[r]?=some [a]/\Ik m sv.H (m.ι b (r+1)) c (l.getD r []) a:=by
 obtain ⟨h1,h0,h2⟩:=h.Oc b _ hb;refine ⟨h1,fun r=>(h0 r).1,fun x hx=> ?_⟩;rcases h2 with ⟨_,h3⟩|⟨x',rows,ty,h3,h4,h5,h6⟩
 · rw [hx] at h3;simp at h3
 · rw [hx] at h3;simp at h3;subst h3;exact ⟨rows,ty,h4,h5,h6⟩
theorem Nu (h:RH m s.H sv.H) {b r y:Nat} {c:CT} {l:List (List (Eb c))} (hb:s.H.bl[b]?=some (.deep c l)) (hy:m.ι b (r+1)=some y):r<l.length/\∃ rows ty,sv.H.bl[y]?=some (.cells rows (width c) ty)/\(l.getD r []).length<=rows.length/\Hj m (width c) (l.getD r []).length (vw c (l.getD r [])) rows:=by
 obtain ⟨h1,h0,h2⟩:=h.Oc b _ hb;have hr:r<l.length:=by
   rcases Rb r l.length with h|h
   · exact h
   · rw [(h0 r).2 h] at hy;simp at hy
 refine ⟨hr,?_⟩;rcases h2 with ⟨h3,_⟩|⟨x',rows,ty,h3,h4,h5,h6⟩
 · omega
 · obtain ⟨a,k1,k2⟩:=h6 r hr;rcases k2 with ⟨_,k3,_⟩|⟨y',Qd,L4,k3,k4,k5,k6,k7⟩
   · rw [hy] at k3;simp at k3
   · rw [hy] at k3;simp at k3;subst k3;exact ⟨Qd,L4,k5,k6,k7⟩
theorem tS {c:CT} {l:List (Eb c)} {r:Nat} {x:Eb c} {i:Nat} (hr:r<l.length):vw c (l.set r x) i=if i=r then enc c x else vw c l i:=by
 simp only [vw,Ea,Kb];split
 · rename_i e;subst e;simp [hr]
 · rename_i e;rw [if_neg (fun e'=>e e'.symm)]
theorem JC (h:RH m s.H sv.H) {b x:Nat} {row:List UV} (hb:s.H.bl[b]?=some (.fb row)) (hx:m.ι b 0=some x):∃ Jb ty,sv.H.bl[x]?=some (.cells [Jb] Jb.length ty)/\RL m row Jb:=by
 obtain ⟨x',Jb,ty,h1,h2,h3⟩:=h.Oc b _ hb;rw [hx] at h1;simp at h1;subst h1;exact ⟨Jb,ty,h2,h3⟩
theorem Vt {t:TypeId} {p:US} {pv:V.SV} {x:UV} (h:load A s t p=some x) (hh:RH m s.H sv.H) (hf:RF m φ s.F sv.F) (hp:RS m φ p pv):∃ a,V.load A sv t pv=some a/\RV m x a:=by
 unfold load at h;split at h
 · rename_i i c;cases pv with
   |v a=>exact hp.elim
   |loc j c'=>
    obtain ⟨h1,rfl⟩:=hp;simp only [aa] at h;obtain ⟨row,hr,h⟩:=h;obtain ⟨j',Jb,k1,k2,k3⟩:=hf.row i row hr;rw [h1] at k1;simp at k1;subst k1;obtain ⟨a,k4,k5⟩:=Yf h k3;exact ⟨a,by simp [V.load,k2,k4],k5⟩
 · rename_i b c;obtain ⟨a,rfl,hv⟩:=hp.val (by simp);cases hv with
   |ptr _ _ x hx=>
    split at h
    · rename_i row hb;obtain ⟨Jb,ty,k1,k2⟩:=JC hh hb hx;obtain ⟨a,k4,k5⟩:=Yf h k2;exact ⟨a,by simp [V.load,V.rowAt,k1,k4],k5⟩
    · simp at h
 · rename_i b r c;obtain ⟨a,rfl,hv⟩:=hp.val (by simp);cases hv with
   |Ml _ _ _ x hx hr=>
    split at h
    · rename_i ct l hb;obtain ⟨k0,k1⟩:=uc hh hb;obtain ⟨rows,ty,k2,k3,k4⟩:=k1 x hx;obtain ⟨row,k5,k6,_⟩:=k4.row k3 (i:=r) (by rw [<- k0];exact hr);obtain ⟨a,k7,k8⟩:=Yf h k6;exact ⟨a,by simp [V.load,V.rowAt,k2,k5,k7],k8⟩
    · rename_i ct l hb;obtain ⟨k0,k1,k2⟩:=Od hh hb;obtain ⟨rows,ty,k3,k4,k5⟩:=k2 x hx;have YC:r<l.length:=by rw [<- k0];exact hr
      obtain ⟨a0,k6,k7⟩:=k5 r YC;have hd:RV m (.cr b r) a0:=by
       rcases k7 with ⟨j1,j2,j3⟩|⟨y,Qd,L4,j1,rfl,_⟩
       · exact .Ts b r a0 (by rw [hh.len];exact Ua hb) (by rw [k1 r];exact j1) j3
       · rw [<- k1 r];exact .cr b r y j1
      obtain ⟨a,k8,k9⟩:=Yf h (RL.cons hd RL.nil);exact ⟨a,by simp [V.load,V.rowAt,k3,k6,k8],k9⟩
    · simp at h
 · rename_i b r j c;obtain ⟨a,rfl,hv⟩:=hp.val (by simp);cases hv with
   |Ao _ _ _ _ x hx hj=>
    split at h
    · rename_i ct l hb;obtain ⟨k0,k1,_⟩:=Od hh hb;obtain ⟨YC,rows,ty,k2,k3,k4⟩:=Nu hh hb hx;obtain ⟨row,k5,k6,_⟩:=k4.row k3 (i:=j) (by rw [<- k1 r];exact hj);obtain ⟨a,k7,k8⟩:=Yf h k6;exact ⟨a,by simp [V.load,V.rowAt,k2,k5,k7],k8⟩
    · simp at h
 · rename_i row;obtain ⟨a,rfl,hv⟩:=hp.val (by simp);cases hv with
   |Bd _ Jb hl hc hr=>
    obtain ⟨a,k1,k2⟩:=Yf h ⟨hl,hr⟩;exact ⟨a,by simp [V.load,k1],k2⟩
 · simp at h
theorem RF.set {F:List (List UV)} {Fv:List (List V.AV)} (h:RF m φ F Fv) {i j:Nat} {row:List UV} {Jb:List V.AV} (Ky:φ i=some j) (hr:RL m row Jb):RF m φ (F.set i row) (Fv.set j Jb):=by
 refine ⟨fun a b hab=>by simpa using h.Ae a b hab,fun a r ha=> ?_,h.inj⟩;rw [Kb] at ha;split at ha
 · rename_i e;subst e;split at ha
   · simp at ha;subst ha;refine ⟨j,Jb,Ky,?_,hr⟩;rw [Kb,if_pos rfl,if_pos (h.Ae _ _ Ky).2]
   · simp at ha
 · rename_i e;obtain ⟨b,r',k1,k2,k3⟩:=h.row a r ha;refine ⟨b,r',k1,?_,k3⟩;rw [Kb,if_neg]
   · exact k2
   · rintro rfl;exact e (h.inj i a _ Ky k1)
theorem RF.mono {m':Mp} {F:List (List UV)} {Fv:List (List V.AV)} (h:RF m φ F Fv) (hle:m.Le m'):RF m' φ F Fv:=
 ⟨h.Ae,fun i row hi=>let ⟨j,Jb,h1,h2,h3⟩:=h.row i row hi;⟨j,Jb,h1,h2,h3.mono hle⟩,h.inj⟩
theorem UO {t:TypeId} {p:US} {pv:V.SV} {y:UV} {a:V.AV} {s':St} (h:store A s t p y=some s') (hh:RH m s.H sv.H) (hf:RF m φ s.F sv.F) (hp:RS m φ p pv) (hy:RV m y a):
   ∃ je,V.store A sv t pv a=some je/\RH m s'.H je.H/\RF m φ s'.F je.F/\Ej m.top m sv.H m je.H/\s'.e=s.e/\je.e=sv.e/\s'.base=s.base:=by
 simp only [store,mD,aa] at h;obtain ⟨cs,Si,n,hn,h⟩:=h;split at h
 case isFalse=>simp at h
 rename_i hlen;obtain ⟨Bh,q1,q2⟩:=dr Si hy;unfold V.store;simp only [q1,hn,da];rw [if_pos (by rw [q2.1];exact hlen)];split at h
 · rename_i i c;cases pv with
   |v a=>exact hp.elim
   |loc j c'=>
    obtain ⟨h1,rfl⟩:=hp;simp only [aa] at h;obtain ⟨row,hr,nf,jf,h⟩:=h;simp at h;subst h;obtain ⟨j',Jb,k1,k2,k3⟩:=hf.row i row hr;rw [h1] at k1;simp at k1;subst k1;obtain ⟨qg,k4,k5,_⟩:=uk jf k3 q2;exact ⟨{ sv with F:=sv.F.set j qg },by simp [k2,k4],hh,hf.set h1 k5,.refl _ (oa _),rfl,rfl,rfl⟩
 · rename_i b c;obtain ⟨a',rfl,hv⟩:=hp.val (by simp);cases hv with
   |ptr _ _ x hx=>
    split at h
    case h_2=>simp at h
    rename_i row hb;split at h
    case isFalse=>simp at h
    rename_i Of;simp only [aa] at h;obtain ⟨nf,jf,h⟩:=h;simp at h;subst h;obtain ⟨Jb,ty,k1,k2⟩:=JC hh hb hx;obtain ⟨qg,k4,k5,k6⟩:=uk jf k2 q2;have hl:live s.H b:=⟨_,hb,rfl⟩;have hw:=hh.wm b x hx Of;have LM:qg.length=Jb.length:=by rw [k5.1,k6,k2.1]
    have yh:=hh.set (y:= .fb nf) (yv:= .cells [qg] qg.length ty) hl hx ⟨x,qg,ty,hx,by rw [Ac,if_pos rfl,if_pos (hh.Ae b x hx).2],k5⟩;refine ⟨{ sv with H:=V.Ma sv.H x (.cells [qg] qg.length ty) },?_,yh.1,hf,yh.2,rfl,rfl,rfl⟩;simp [k1,hw,k4,LM]
 · rename_i b r c;obtain ⟨a',rfl,hv⟩:=hp.val (by simp);cases hv with
   |Ml _ _ _ x hx YC=>
    split at h
    case h_2=>simp at h
    rename_i ct l hb;split at h
    case isFalse=>simp at h
    rename_i Of;simp only [aa] at h;obtain ⟨nf,jf,xr,C1,h⟩:=h;simp at h;subst h;obtain ⟨k0,k1⟩:=uc hh hb;obtain ⟨rows,ty,k2,k3,k4⟩:=k1 x hx;have hrn:r<l.length:=by rw [<- k0];exact YC
    have Pj:r<rows.length:=by omega
    obtain ⟨Jb,k5,k6,k7⟩:=k4.row k3 hrn;obtain ⟨qg,k8,k9,k10⟩:=uk jf k6 q2;have k9':=Jm C1 k9;have hl:live s.H b:=⟨_,hb,rfl⟩;have hw:=hh.wm b x hx Of;have yh:=hh.set (y:= .cells ct (l.set r xr)) (yv:= .cells (rows.set r qg) (width ct) ty) hl hx (by
     refine ⟨by rw [fe];exact k0,.inr ⟨x,rows.set r qg,ty,hx,by rw [Ac,if_pos rfl,if_pos (hh.Ae b x hx).2],by simpa using k3,fun i hi=>⟨tf _ _ _,Pd _ _ _⟩,fun i row XE hi=> ?_,fun i row c' y' a' XE hi h1 h2=> ?_⟩⟩
     · rw [fe] at XE;rw [Kb] at hi;split at hi
       · simp [Pj] at hi;subst hi;rw [k9'.1,Ah]
       · exact k4.2.1 i row XE hi
     · rw [fe] at XE;rw [Kb] at hi;rw [tS hrn] at h1;split at hi
       · rename_i e;subst e;rw [if_pos rfl] at h1;simp [Pj] at hi;subst hi;exact k9'.2 c' y' a' h1 h2
       · rename_i e;rw [if_neg (fun e'=>e e'.symm)] at h1;exact k4.2.2 i row c' y' a' XE hi h1 h2)
    refine ⟨{ sv with H:=V.Ma sv.H x (.cells (rows.set r qg) (width ct) ty) },?_,yh.1,hf,yh.2,rfl,rfl,rfl⟩;simp [k2,hw,k5,k8]
 · rename_i b r j c;obtain ⟨a',rfl,hv⟩:=hp.val (by simp);cases hv with
   |Ao _ _ _ _ x hx KP=>
    split at h
    case h_2=>simp at h
    rename_i ct l hb;split at h
    case isFalse=>simp at h
    rename_i Of;simp only [aa] at h;obtain ⟨nf,jf,xr,C1,h⟩:=h;simp at h;subst h;obtain ⟨k0,k1,kx⟩:=Od hh hb;obtain ⟨YC,rows,ty,k2,k3,k4⟩:=Nu hh hb hx;have GG:j<(l.getD r []).length:=by rw [<- k1 r];exact KP
    have hjr:j<rows.length:=by omega
    obtain ⟨Jb,k5,k6,k7⟩:=k4.row k3 GG;obtain ⟨qg,k8,k9,k10⟩:=uk jf k6 q2;have k9':=Jm C1 k9;have hl:live s.H b:=⟨_,hb,rfl⟩;have hw:=hh.wm b x hx Of;have hgd:∀ i,(l.set r ((l.getD r []).set j xr)).getD i []=if i=r then (l.getD r []).set j xr else l.getD i []:=fun i=>by
     simp only [Ea,Kb];by_cases e:r=i
     · subst e;simp [YC]
     · rw [if_neg e,if_neg (fun e'=>e e'.symm)]
    have yh:=hh.Vab (y:= .deep ct (l.set r ((l.getD r []).set j xr))) (yv:= .cells (rows.set j qg) (width ct) ty) hl hx (by
     obtain ⟨b1,b0,b2⟩:=hh.Oc b _ hb;refine ⟨by rw [fe];exact b1,fun i=>⟨?_,by rw [fe];exact (b0 i).2⟩,?_⟩
     · rw [hgd];split
       · rename_i e;subst e;rw [fe];exact (b0 i).1
       · exact (b0 i).1
     rcases b2 with ⟨b3,_⟩|⟨x',rws,L4,b3,b4,b5,b6⟩
     · omega
     have R8:x≠x':=fun e=>by subst e;have:=(hh.zm b b x hl hl hx b3).2;omega
     refine .inr ⟨x',rws,L4,b3,by rw [Ac,if_neg R8];exact b4,by rw [fe];exact b5,fun i hi=> ?_⟩;rw [fe] at hi;obtain ⟨a,c1,c2⟩:=b6 i hi;refine ⟨a,c1,?_⟩;rw [hgd];split
     · rename_i e;subst e;rcases c2 with ⟨c3,_⟩|⟨y,rw0,xB,c3,c4,c5,c6,c7⟩
       · omega
       rw [hx] at c3;simp at c3;subst c3;rw [k2] at c5;simp at c5;obtain ⟨rfl,rfl⟩:=c5;refine .inr ⟨x,rows.set j qg,ty,hx,by rw [fe];exact c4,by rw [Ac,if_pos rfl,if_pos (hh.Ae b x hx).2],by simpa using c6,fun i hi=>⟨tf _ _ _,Pd _ _ _⟩,fun i row XE hi=> ?_,fun i row c' y' a' XE hi h1 h2=> ?_⟩
       · rw [fe] at XE;rw [Kb] at hi;split at hi
         · simp [hjr] at hi;subst hi;rw [k9'.1,Ah]
         · exact c7.2.1 i row XE hi
       · rw [fe] at XE;rw [Kb] at hi;rw [tS GG] at h1;split at hi
         · rename_i e;subst e;rw [if_pos rfl] at h1;simp [hjr] at hi;subst hi;exact k9'.2 c' y' a' h1 h2
         · rename_i e;rw [if_neg (fun e'=>e e'.symm)] at h1;exact c7.2.2 i row c' y' a' XE hi h1 h2
     · rename_i e;rcases c2 with ⟨c3,c4,c5⟩|⟨y,rw0,xB,c3,c4,c5,c6,c7⟩
       · exact .inl ⟨c3,c4,c5⟩
       · have hxy:x≠y:=fun e'=>by subst e';have:=(hh.zm b b x hl hl hx c3).2;omega
         exact .inr ⟨y,rw0,xB,c3,c4,by rw [Ac,if_neg hxy];exact c5,c6,c7⟩)
    refine ⟨{ sv with H:=V.Ma sv.H x (.cells (rows.set j qg) (width ct) ty) },?_,yh.1,hf,yh.2,rfl,rfl,rfl⟩;simp [k2,hw,k5,k8]
 · simp at h
theorem Rx {p p':US} {pv:V.SV} {n:Nat} (h:ug n p=some p') (hp:RS m φ p pv):∃ pv',V.ug n pv=some pv'/\RS m φ p' pv':=by
 unfold ug at h;split at h
 · rename_i i c;simp at h;subst h;cases pv with
   |v a=>exact hp.elim
   |loc j c'=>obtain ⟨h1,rfl⟩:=hp;exact ⟨_,rfl,h1,rfl⟩
 · rename_i b c;simp at h;subst h;obtain ⟨a,rfl,hv⟩:=hp.val (by simp);cases hv with
   |ptr _ _ x hx=>exact ⟨_,rfl,RV.ptr b (c+n) x hx⟩
 · rename_i b r c;simp at h;subst h;obtain ⟨a,rfl,hv⟩:=hp.val (by simp);cases hv with
   |Ml _ _ _ x hx hr=>exact ⟨_,rfl,RV.Ml b r (c+n) x hx hr⟩
 · rename_i b r j c;simp at h;subst h;obtain ⟨a,rfl,hv⟩:=hp.val (by simp);cases hv with
   |Ao _ _ _ _ x hx hr=>exact ⟨_,rfl,RV.Ao b r j (c+n) x hx hr⟩
 · rename_i row;simp at h;subst h;obtain ⟨a,rfl,hv⟩:=hp.val (by simp);cases hv with
   |Bd _ Jb hl hc hr=>
    have:=RL.drop (m:=m) ⟨hl,hr⟩ n;exact ⟨_,rfl,RV.Bd _ _ this.1 (fun x hx=>hc x (List.mem_of_mem_drop hx)) this.2⟩
 · simp at h
theorem Zs {i:Int} {K:Nat->Option X}:∀ (n j:Nat),cases i K n j=some out->∃ k,j<=k/\k<j+n/\i=(k:Int)/\K k=some out
 |0,j,h=>by simp [cases] at h
 |n+1,j,h=>by
  simp only [cases] at h;by_cases hc:i=(j:Int)
  · simp [hc] at h;exact ⟨j,oa _,by omega,hc,h⟩
  · simp [hc] at h;obtain ⟨k,h1,h2,h3,h4⟩:=Zs n (j+1) h;exact ⟨k,by omega,by omega,h3,h4⟩
theorem Ad {b:Bool} {x:Option X} (h:ask b x=some out):b=true/\x=some out:=by
 unfold ask at h;cases b<;>simp_all
theorem oz (r k:Nat):SR r k=r+k:=by unfold SR;split<;>simp
theorem PB {t:TypeId} {p:US} {i:Int} {K:US->Option X} (h:indexAddr A s.H t p i K=some out):
   ∃ v,K v=some out/\∀ (m:Mp) (φ:Nat->Option Nat) (sv:V.S) (pv:V.SV),RH m s.H sv.H->RS m φ p pv->∃ vv,V.indexAddr A sv.H t pv i=some vv/\RS m φ v vv:=by
 unfold indexAddr at h;split at h
 · rename_i n e hu;simp only [aa] at h;obtain ⟨sz,ae,h⟩:=h;obtain ⟨k,_,hk,rfl,hc⟩:=Zs n 0 h;obtain ⟨v,hv,h⟩:=aa.1 hc;refine ⟨v,h,fun m φ sv pv hh hp=> ?_⟩;obtain ⟨vv,h1,h2⟩:=Rx hv hp;refine ⟨vv,?_,h2⟩;have hr:V.va (k:Int) n=true:=by simp [V.va];omega
   simp [V.indexAddr,hu,hr,ae,h1]
 · rename_i e hu;split at h
   · rename_i b r n;split at h
     case h_3=>simp at h
     case h_2=>
      rename_i ct l hb;split at h
      case isFalse=>simp at h
      rename_i hz;obtain ⟨h0,h⟩:=Ad h;refine ⟨_,h,fun m φ sv pv hh hp=> ?_⟩;obtain ⟨a,rfl,hv⟩:=hp.val (by simp);have U':0<=i/\i<(n:Int):=by simpa [V.va] using h0
      have nc:i.toNat<n:=by omega
      cases hv with
      |sl _ _ _ x hx hle=>
        obtain ⟨k0,k1,k2⟩:=Od hh hb;obtain ⟨rows,ty,k3,k4,k5⟩:=k2 x hx;refine ⟨.v (.ptr x (r+i.toNat) 0),?_,?_⟩
        · simp [V.indexAddr,hu,h0,V.Aj,k3,hz]
        · rw [oz];exact RV.Ml b _ 0 x hx (by omega)
      |Jr _ _ a ha=>omega
     rename_i ct l hb;split at h
     case isFalse=>simp at h
     rename_i hz;obtain ⟨h0,h⟩:=Ad h;refine ⟨_,h,fun m φ sv pv hh hp=> ?_⟩;obtain ⟨a,rfl,hv⟩:=hp.val (by simp);have U':0<=i/\i<(n:Int):=by simpa [V.va] using h0
     have nc:i.toNat<n:=by omega
     cases hv with
     |sl _ _ _ x hx hle=>
      obtain ⟨k0,k1⟩:=uc hh hb;obtain ⟨rows,ty,k2,k3,k4⟩:=k1 x hx;refine ⟨.v (.ptr x (r+i.toNat) 0),?_,?_⟩
      · simp [V.indexAddr,hu,h0,V.Aj,k2,hz]
      · rw [oz];exact RV.Ml b _ 0 x hx (by omega)
     |Jr _ _ a ha=>omega
   · rename_i b;split at h
     case h_3=>simp at h
     case h_2=>
      rename_i ct l hb;split at h
      case isFalse=>simp at h
      rename_i hz;obtain ⟨h0,h⟩:=Ad h;refine ⟨_,h,fun m φ sv pv hh hp=> ?_⟩;obtain ⟨a,rfl,hv⟩:=hp.val (by simp);have U':0<=i/\i<(l.length:Int):=by simpa [V.va] using h0
      have nc:i.toNat<l.length:=by omega
      obtain ⟨k0,k1,k2⟩:=Od hh hb;cases hv with
      |all _ x hx=>
        obtain ⟨rows,ty,k3,k4,k5⟩:=k2 x hx;refine ⟨.v (.ptr x (0+i.toNat) 0),?_,?_⟩
        · simp [V.indexAddr,hu,k0,h0,V.Aj,k3,hz]
        · rw [de];exact RV.Ml b _ 0 x hx (by omega)
      |Nf _ a _ hl ha=>omega
     rename_i ct l hb;split at h
     case isFalse=>simp at h
     rename_i hz;obtain ⟨h0,h⟩:=Ad h;refine ⟨_,h,fun m φ sv pv hh hp=> ?_⟩;obtain ⟨a,rfl,hv⟩:=hp.val (by simp);have U':0<=i/\i<(l.length:Int):=by simpa [V.va] using h0
     have nc:i.toNat<l.length:=by omega
     obtain ⟨k0,k1⟩:=uc hh hb;cases hv with
     |all _ x hx=>
      obtain ⟨rows,ty,k2,k3,k4⟩:=k1 x hx;refine ⟨.v (.ptr x (0+i.toNat) 0),?_,?_⟩
      · simp [V.indexAddr,hu,k0,h0,V.Aj,k2,hz]
      · rw [de];exact RV.Ml b _ 0 x hx (by omega)
     |Nf _ a _ hl ha=>omega
   · rename_i b r;split at h
     case h_2=>simp at h
     rename_i ct l hb;split at h
     case isFalse=>simp at h
     rename_i hz;obtain ⟨h0,h⟩:=Ad h;refine ⟨_,h,fun m φ sv pv hh hp=> ?_⟩;obtain ⟨a,rfl,hv⟩:=hp.val (by simp);have U':0<=i/\i<((l.getD r []).length:Int):=by simpa only [V.va,Ia,decide_eq_true_eq] using h0
     have nc:i.toNat<(l.getD r []).length:=by omega
     obtain ⟨k0,k1,_⟩:=Od hh hb;cases hv with
     |cr _ _ x hx=>
      obtain ⟨YC,rows,ty,k2,k3,k4⟩:=Nu hh hb hx;refine ⟨.v (.ptr x (0+i.toNat) 0),?_,?_⟩
      · have jai:V.va i (m.len b (r+1))=true:=by rw [k1 r];exact h0
        simp [V.indexAddr,hu,jai,V.Aj,k2,hz]
      · rw [de];exact RV.Ao b r _ 0 x hx (by rw [k1 r];exact nc)
     |Ts _ _ a _ hl ha=>rw [k1 r] at hl;omega
   · rename_i ct l;split at h
     case isFalse=>simp at h
     rename_i hz;obtain ⟨h0,h⟩:=Ad h;refine ⟨_,h,fun m φ sv pv hh hp=> ?_⟩;obtain ⟨a,rfl,hv⟩:=hp.val (by simp);have U':0<=i/\i<(l.length:Int):=by simpa [V.va] using h0
     have nc:i.toNat<l.length:=by omega
     cases hv with
     |lit _ _ rows h1 h2 h3=>
      have Pj:Hj m (width ct) rows.length (vw ct l) rows:=⟨fun i _=>⟨tf _ _ _,Pd _ _ _⟩,fun i row _=>h2 i row,fun i row c x a _=>h3 i row c x a⟩;obtain ⟨row,k5,k6,k7⟩:=Pj.row (oa _) (i:=i.toNat) (by omega);refine ⟨.v (.Bd row),?_,?_⟩
      · simp [V.indexAddr,hu,h1,h0,hz,k5]
      · exact RV.Bd _ _ k6.1 (Pd _ _ _) k6.2
     |Qh _ a ha=>simp at nc
   · simp at h
 · simp at h
theorem zP {t:TypeId} {x:UV} {i:Int} {K:UV->Option X} (h:index A t x i K=some out):
   ∃ v,K v=some out/\∀ (m:Mp) (a:V.AV),RV m x a->∃ b,V.index A t a i=some b/\RV m v b:=by
 unfold index at h;split at h
 · rename_i n e cs hu;simp only [aa] at h;obtain ⟨sz,ae,h⟩:=h;obtain ⟨k,_,hk,rfl,hc⟩:=Zs n 0 h;obtain ⟨v,hv,h⟩:=aa.1 hc;refine ⟨v,h,fun m a ha=> ?_⟩;cases ha with
   |agg _ as hl hr=>
    obtain ⟨b,h1,h2⟩:=Yf hv ⟨hl,hr⟩;have Rk:V.va (k:Int) n=true:=by simp [V.va];omega
    exact ⟨b,by simp [V.index,hu,Rk,ae,h1],h2⟩
 · rename_i str hu;obtain ⟨h0,h⟩:=Ad h;refine ⟨_,h,fun m a ha=> ?_⟩;cases ha with
   |str=>exact ⟨_,by simp [V.index,hu,h0],.int _ _⟩
 · simp at h
theorem RP.cons {i:Nat} {x:UV} {ps:List (Nat×UV)} {qs:List (Nat×V.AV)} (h:RP m ((i,x)::ps) qs):∃ a R4,qs=(i,a)::R4/\RV m x a/\RP m ps R4:=by
 obtain ⟨h1,h2⟩:=h;cases qs with
 |nil=>simp at h1
 |cons q qs=>
  obtain ⟨j,a⟩:=q;simp at h1;obtain ⟨rfl,h1⟩:=h1;refine ⟨a,qs,rfl,h2.2 0 x a rfl rfl,h1,⟨by have:=h2.1;simpa using this,fun k y b k1 k2=>h2.2 (k+1) y b (by simpa using k1) (by simpa using k2)⟩⟩
theorem xp {place:Nat->Option (Nat×Nat)}:∀ {ps:List (Nat×UV)} {qs:List (Nat×V.AV)} {row nf:List UV} {Jb:List V.AV},Vf place row ps=some nf->RL m row Jb->RP m ps qs->∃ qg,V.Vf place Jb qs=some qg/\RL m nf qg
 |[],qs,row,nf,Jb,h,hr,hp=>by
  simp [Vf] at h;subst h;have:qs=[]:=by have:=hp.1;simpa using this
  subst this;exact ⟨Jb,rfl,hr⟩
 |(i,x)::ps,qs,row,nf,Jb,h,hr,hp=>by
  obtain ⟨a,R4,rfl,hx,jJ⟩:=hp.cons;simp only [Vf,aa] at h;obtain ⟨⟨off,n⟩,VB,cs,Si,h⟩:=h;split at h
  case isFalse=>simp at h
  rename_i hlen;simp only [aa] at h;obtain ⟨wk,jf,h⟩:=h;obtain ⟨Bh,q1,q2⟩:=dr Si hx;obtain ⟨Oai,k1,k2,_⟩:=uk jf hr q2;obtain ⟨qg,k3,k4⟩:=xp h k2 jJ;refine ⟨qg,?_,k4⟩;simp only [V.Vf,VB,q1,da];rw [if_pos (by rw [q2.1];exact hlen),k1];exact k3
theorem PR {t:TypeId} {ps:List (Nat×UV)} {qs:List (Nat×V.AV)} {v:UV} (h:build A t ps=some v) (hp:RP m ps qs):∃ a,V.build A t qs=some a/\RV m v a:=by
 simp only [build,aa] at h;obtain ⟨z,hz,h⟩:=h;obtain ⟨z',q1,q2,_⟩:=Fo hz;unfold V.build;simp only [q1,da];split at h
 · rename_i fs hu;split at h
   case isFalse=>simp at h
   rename_i Af;simp only [ia] at h;obtain ⟨row,Zc,rfl⟩:=h;obtain ⟨Jb,k1,k2⟩:=xp Zc (q2 m) hp;exact ⟨.agg Jb,by rw [hu];simp only [Af,if_true,k1,Jc],.agg _ _ k2.1 k2.2⟩
 · rename_i n e hu;simp only [aa,ia] at h;obtain ⟨sz,ae,row,Zc,rfl⟩:=h;obtain ⟨Jb,k1,k2⟩:=xp Zc (q2 m) hp;exact ⟨.agg Jb,by rw [hu];simp only [ae,da,k1,Jc],.agg _ _ k2.1 k2.2⟩
 · simp at h
end
end Go.U
namespace Go.U
open Go
variable [TB:sB]
def Um (Hv:V.AH):V.AV->Option (List (List V.AV))
 | .str s=>some (V.ic s)
 |y=>V.rowsOf Hv y
def jt (Hv:V.AH) (x':V.AV) (xs ys:List (List V.AV)) (zl:Nat) (te:TypeId):Option (V.AV×V.AH):=
 match x' with
 | .Wa| .Kd=>some (.sl Hv.bl.length 0 ys.length,V.push Hv (.cells ys zl (some (te,1))))
 | .sl b r _=>if Hv.wm<=b/\V.Aj Hv b=some zl then some (.sl Hv.bl.length 0 (xs.length+ys.length),V.push (V.Ma Hv b .dead) (.cells (xs++ys) zl (V.Wx (V.kE Hv b) te r))) else none
 |_=>none
def Co (m:Mp) (Hv:V.AH) (v:UV) (H':UH) (a:V.AV) (Ic:V.AH):Prop:=∃ m',RH m' H' Ic/\RV m' v a/\m.Le m'/\Ej m.top m Hv m' Ic
section
variable {A:V.oh} {La:Nat->Option (List UV)} {m:Mp} {φ:Nat->Option Nat} {H H':UH} {Hv:V.AH} {X:Type} {out:X}
theorem Co.same {v:UV} {a:V.AV} (hh:RH m H Hv) (hv:RV m v a):Co m Hv v H a Hv:=⟨m,hh,hv,.refl m,.refl Hv (oa _)⟩
def RT (m:Mp) (c:CT) (l:List (Eb c)) (rows:List (List V.AV)):Prop:=rows.length=l.length/\Hj m (width c) l.length (vw c l) rows
theorem RT.lit {c:CT} {l:List (Eb c)} {rows:List (List V.AV)} (h:RT m c l rows):RV m (.lit c l) (.lit (width c) rows):=
 .lit c l rows h.1 (fun i row hi=>h.2.2.1 i row (by rw [<- h.1];exact Ua hi) hi) fun i row k x a h1 h2 h3=>h.2.2.2 i row k x a (by rw [<- h.1];exact Ua h1) h1 h2 h3
theorem RT.of {c:CT} {l:List (Eb c)} {rows:List (List V.AV)} (hl:rows.length=l.length) (h:∀ (i:Nat) (row:List V.AV),i<l.length->rows[i]?=some row->RL m (vw c l i) row):RT m c l rows:=
 ⟨hl,fun i _=>⟨tf _ _ _,Pd _ _ _⟩,fun i row hi hr=>by rw [(h i row hi hr).1,tf],fun i row k x a hi hr h1 h2=>(h i row hi hr).2 k x a h1 h2⟩
theorem RT.get {c:CT} {l:List (Eb c)} {rows:List (List V.AV)} (h:RT m c l rows) {i:Nat} {row:List V.AV} (hr:rows[i]?=some row):RL m (vw c l i) row:=by
 have hi:i<l.length:=by rw [<- h.1];exact Ua hr
 obtain ⟨Jb,j1,j2,j3⟩:=h.2.row (Ch h.1.symm) hi;rw [hr] at j1;simp at j1;subst j1;exact j2
theorem Hj.mono {m':Mp} {z n:Nat} {f:Nat->List UV} {rows:List (List V.AV)} (h:Hj m z n f rows) (hle:m.Le m'):Hj m' z n f rows:=
 ⟨h.1,h.2.1,fun i row c x a h0 h1 h2 h3=>(h.2.2 i row c x a h0 h1 h2 h3).mono hle⟩
theorem RT.mono {m':Mp} {c:CT} {l:List (Eb c)} {rows:List (List V.AV)} (h:RT m c l rows) (hle:m.Le m'):RT m' c l rows:=⟨h.1,h.2.mono hle⟩
theorem RT.free (m':Mp) {c:CT} {l:List (Eb c)} {rows:List (List V.AV)} (h:RT m c l rows):RT m' c l rows:=
 .of h.1 fun i row hi hr=>(h.get hr).free m' (Pd _ _ _)
theorem RT.nil {c:CT}:RT m c [] []:= .of rfl fun i row hi=>by simp at hi
theorem V7 {c:CT} {l l':List (Eb c)} {i:Nat}:vw c (l++l') i=if i<l.length then vw c l i else vw c l' (i-l.length):=by
 simp only [vw,Ea];split
 · rename_i h;rw [Fa h]
 · rename_i h;rw [Ka (by omega)]
theorem RT.append {c:CT} {l l':List (Eb c)} {rows Qd:List (List V.AV)} (h:RT m c l rows) (h':RT m c l' Qd):RT m c (l++l') (rows++Qd):=
 .of (by simp [h.1,h'.1]) fun i row hi hr=>by
  rw [V7];split
  · rename_i nc;rw [Fa (by rw [h.1];exact nc)] at hr;exact h.get hr
  · rename_i Qr;rw [Ka (by rw [h.1];omega),h.1] at hr;exact h'.get hr
theorem RT.drop {c:CT} {l:List (Eb c)} {rows:List (List V.AV)} (h:RT m c l rows) (k:Nat):RT m c (l.drop k) (rows.drop k):=
 .of (by simp [h.1]) fun i row hi hr=>by
  rw [Dc] at hr;have:vw c (l.drop k) i=vw c l (k+i):=by simp only [vw,Ea,Dc]
  rw [this];exact h.get hr
theorem RT.take {c:CT} {l:List (Eb c)} {rows:List (List V.AV)} (h:RT m c l rows) (k:Nat):RT m c (l.take k) (rows.take k):=
 .of (by simp [h.1]) fun i row hi hr=>by
  rw [Ab] at hr;split at hr
  · rename_i hk;have:vw c (l.take k) i=vw c l i:=by simp only [vw,Ea,Ab,if_pos hk]
    rw [this];exact h.get hr
  · simp at hr
theorem ak {α:Type} (r n:Nat) (l:List α):Vi r n l=(l.drop r).take n:=by cases r<;>rfl
theorem RT.rows {c:CT} {l:List (Eb c)} {rows:List (List V.AV)} (h:RT m c l rows) {r:List V.AV} (hr:r∈rows):r.length=width c:=by
 obtain ⟨i,hi⟩:=Yd hr;rw [(h.get hi).1,tf]
theorem RT.block {c:CT} {l:List (Eb c)} {rows:List (List V.AV)} {b x:Nat} (hlen:m.len b 0=l.length) (eo:m.ι b 0=some x) {ty:Option (TypeId×Nat)} (hb:Hv.bl[x]?=some (.cells rows (width c) ty)) (h:RT m c l rows):RB m Hv b (.cells c l):=
 ⟨hlen,.inr ⟨x,rows,ty,eo,hb,Ch h.1.symm,h.2⟩⟩
theorem RH.zq (hh:RH m H Hv) {c:CT} {l:List (Eb c)} {rows:List (List V.AV)} (h:RT m c l rows) {zl:Nat} (hz:zl=width c) {ty:Option (TypeId×Nat)}:Co m Hv (.all H.bl.length) (U.push H (.cells c l)) (.sl Hv.bl.length 0 l.length) (V.push Hv (.cells rows zl ty)):=by
 subst hz;have oe:=hh.new (y:= .cells c l) (yv:= .cells rows (width c) ty) (n:=l.length) (RT.block (xd _ _ _ _) (Vd _ _ _ _) (by rw [Be,if_neg (by omega),if_pos rfl]) (h.mono (dM hh _ _)));refine ⟨_,oe.1,?_,oe.2.1,oe.2.2⟩;have:=RV.all (m:=m.add H.bl.length (some Hv.bl.length) l.length) H.bl.length Hv.bl.length (Vd _ _ _ _);rw [xd] at this;exact this
theorem Wp {t e:TypeId} {c:CT} {x:Eb c} (h:elemOf A t=some ⟨c,x⟩) (he:V.elem? A t=some e):∃ z,zero A e=some z/\oG c z=some x/\0<z.length/\V.size A e=some z.length/\width c=z.length:=by
 simp only [elemOf,he,da,aa] at h;obtain ⟨z,hz,c',hc,x',hx,h⟩:=h;split at h
 · rename_i h1;simp only [yc,Sigma.mk.injEq] at h;obtain ⟨rfl,h2⟩:=h;have h2:=eq_of_heq h2;subst h2;exact ⟨z,hz,hx,h1⟩
 · simp at h
theorem tu {zl:Nat}:∀ {ps:List (Nat×UV)} {qs:List (Nat×V.AV)} {rows cm:List (List UV)} {Qd:List (List V.AV)},He rows ps=some cm->RP m ps qs->Qd.length=rows.length->
  (∀ (i:Nat) (row:List UV) (Jb:List V.AV),rows[i]?=some row->Qd[i]?=some Jb->RL m row Jb/\row.length=zl)->
  ∃ Oz,V.He Qd qs=some Oz/\Oz.length=cm.length/\cm.length=rows.length/\∀ (i:Nat) (row:List UV) (Jb:List V.AV),cm[i]?=some row->Oz[i]?=some Jb->RL m row Jb/\row.length=zl
 |[],qs,rows,cm,Qd,h,hp,hl,hr=>by
  simp [He] at h;subst h;have:qs=[]:=by have:=hp.1;simpa using this
  subst this;exact ⟨Qd,rfl,hl,rfl,hr⟩
 |(i,x)::ps,qs,rows,cm,Qd,h,hp,hl,hr=>by
  obtain ⟨a,R4,rfl,hx,jJ⟩:=hp.cons;simp only [He,aa] at h;obtain ⟨cs,Si,aP,y5,h⟩:=h;split at h
  case isFalse=>simp at h
  rename_i hc;obtain ⟨Bh,q1,q2⟩:=dr Si hx;have hi:=Ua y5;have DT:=ya (l:=Qd) (i:=i) (by omega);obtain ⟨k1,k2⟩:=hr i aP _ y5 DT;obtain ⟨Oz,j1,j2,j3,j4⟩:=tu (zl:=zl) (Qd:=Qd.set i Bh) h jJ (by simp [hl]) (fun j row Jb e1 e2=>by
   rw [Kb] at e1 e2;by_cases e:i=j
   · subst e;simp [hi] at e1;rw [if_pos rfl,if_pos (by omega)] at e2;simp at e2;subst e1;subst e2;exact ⟨q2,by omega⟩
   · rw [if_neg e] at e1 e2;exact hr j row Jb e1 e2)
  refine ⟨Oz,?_,j2,by rw [j3];simp,j4⟩;simp only [V.He,q1,da,DT];rw [if_pos (by rw [q2.1,k1.1];exact hc)];exact j1
theorem Bl {c:CT}:∀ {ps:List (Nat×UV)} {i:Nat} {H H':UH} {L:List (List (Eb c))},mh c i ps H=some (L,H')->H'.wm=H.wm
 |[],i,H,H',L,h=>by simp [mh] at h;rw [h.2]
 |(j,x)::ps,i,H,H',L,h=>by
  simp only [mh] at h;split at h
  case isFalse=>simp at h
  split at h
  · simp only [aa] at h;obtain ⟨⟨l,H1⟩,h1,h⟩:=h;simp at h;rw [<- h.2];exact Bl h1
  · simp only [aa] at h;obtain ⟨⟨l,H1⟩,h1,h⟩:=h;simp at h;rw [<- h.2];exact Bl h1
  · split at h
    · split at h
      · simp only [aa] at h;obtain ⟨⟨l,H1⟩,h1,h⟩:=h;simp at h;rw [<- h.2];exact (Bl h1).trans rfl
      · simp at h
    · simp at h
  · simp at h
theorem Ou {c:CT} {Hv:V.AH} {m:Mp}:∀ {ps:List (Nat×UV)} {i:Nat} {H H':UH} {L:List (List (Eb c))} {qs:List (Nat×V.AV)},mh c i ps H=some (L,H')->RH m H Hv->RP m ps qs->
  L.length=qs.length/\RH m H' Hv/\(∀ b,live H' b->live H b)/\(∀ r q,qs[r]?=some q->q.1=i+r/\q.2.cells?=some [q.2])/\
  ∃ F:Nat->Option Nat,(∀ r x,F r=some x->r<L.length/\∃ b,m.ι b 0=some x/\H.wm<=b/\live H b/\¬ live H' b)/\(∀ r r' x,F r=some x->F r'=some x->r=r')/\∀ r q,qs[r]?=some q->Ik m Hv (F r) c (L.getD r []) q.2
 |[],i,H,H',L,qs,h,hh,hp=>by
  simp [mh] at h;obtain ⟨rfl,rfl⟩:=h;have:qs=[]:=by have:=hp.1;simpa using this
  subst this;exact ⟨rfl,hh,fun _ h=>h,fun r q h=>by simp at h,fun _=>none,fun r x h=>by simp at h,fun r r' x h=>by simp at h,fun r q h=>by simp at h⟩
 |(j,x)::ps,i,H,H',L,qs,h,hh,hp=>by
  obtain ⟨a,R4,rfl,hx,jJ⟩:=hp.cons;simp only [mh] at h;split at h
  case isFalse=>simp at h
  rename_i hj;subst hj;have fin:∀ {l0:List (Eb c)} {l:List (List (Eb c))} {H0 H1:UH} {o:Option Nat},mh c (j+1) ps H0=some (l,H1)->RH m H0 Hv->(∀ b,live H0 b->live H b)->H0.wm=H.wm->(∀ y,o=some y->∃ b,m.ι b 0=some y/\H.wm<=b/\live H b/\¬ live H0 b)->a.cells?=some [a]->Ik m Hv o c l0 a->l0::l=L->H1=H'->
      (L.length=((j,a)::R4).length/\RH m H' Hv/\(∀ b,live H' b->live H b)/\(∀ r q,((j,a)::R4)[r]?=some q->q.1=j+r/\q.2.cells?=some [q.2])/\
      ∃ F:Nat->Option Nat,(∀ r x,F r=some x->r<L.length/\∃ b,m.ι b 0=some x/\H.wm<=b/\live H b/\¬ live H' b)/\(∀ r r' x,F r=some x->F r'=some x->r=r')/\∀ r q,((j,a)::R4)[r]?=some q->Ik m Hv (F r) c (L.getD r []) q.2):=fun {l0 l H0 H1 o} h1 I5 CH IM ho hca Zc hL hH=>by
    subst hL;subst hH;obtain ⟨k1,k2,k3,k4,F,k5,k6,k7⟩:=Ou h1 I5 jJ;refine ⟨by simp [k1],k2,fun b hb=>CH b (k3 b hb),fun r q hq=> ?_,fun r=>match r with|0=>o|r+1=>F r,fun r y hy=> ?_,fun r r' y hy If=> ?_,fun r q hq=> ?_⟩
    · cases r with
      |zero=>simp at hq;subst hq;exact ⟨rfl,hca⟩
      |succ r=>have:=k4 r q (by simpa using hq);exact ⟨by omega,this.2⟩
    · cases r with
      |zero=>
        obtain ⟨b,b1,b2,b3,b4⟩:=ho y hy;exact ⟨by simp,b,b1,b2,b3,fun hb=>b4 (k3 b hb)⟩
      |succ r=>
        obtain ⟨c1,b,b1,b2,b3,b4⟩:=k5 r y hy;exact ⟨by simp;omega,b,b1,by rw [<- IM];exact b2,CH b b3,b4⟩
    · have K7:∀ r,o=some y->F r=some y->False:=fun r h1 h2=>by
        obtain ⟨b,b1,b2,b3,b4⟩:=ho y h1;obtain ⟨_,b',b1',b2',b3',b4'⟩:=k5 r y h2;have:=hh.inj b b' y b3 (CH b' b3') b1 b1';subst this;exact b4 b3'
      cases r with
      |zero=>
        cases r' with
        |zero=>rfl
        |succ r'=>exact (K7 r' hy If).elim
      |succ r=>
        cases r' with
        |zero=>exact (K7 r If hy).elim
        |succ r'=>rw [k6 r r' y hy If]
    · cases r with
      |zero=>simp at hq;subst hq;exact Zc
      |succ r=>exact k7 r q (by simpa using hq)
  split at h
  · simp only [aa] at h;obtain ⟨⟨l,H1⟩,h1,h⟩:=h;simp at h;cases hx;exact fin (l0:=[]) (o:=none) h1 hh (fun _ h=>h) rfl (fun y h=>by simp at h) rfl (.inl ⟨rfl,rfl,.inl rfl⟩) h.1 h.2
  · simp only [aa] at h;obtain ⟨⟨l,H1⟩,h1,h⟩:=h;simp at h;cases hx;exact fin (l0:=[]) (o:=none) h1 hh (fun _ h=>h) rfl (fun y h=>by simp at h) rfl (.inl ⟨rfl,rfl,.inr rfl⟩) h.1 h.2
  · rename_i b;split at h
    case h_2=>simp at h
    rename_i c' l0 hb;split at h
    case isFalse=>simp at h
    rename_i hc;obtain ⟨rfl,WC⟩:=hc;simp only [aa] at h;obtain ⟨⟨l,H1⟩,h1,h⟩:=h;simp at h;obtain ⟨k0,kx⟩:=uc (s:=⟨[],[],H,0⟩) (sv:=⟨[],[],Hv⟩) hh hb;have Td:live H b:=⟨_,hb,rfl⟩;have Bj:∀ b',live (Ma H b .dead) b'->b'≠b/\live H b':=fun b' h=>by
      rcases ag h with ⟨_,h'⟩|h'
      · simp [Sd] at h'
      · exact h'
    cases hx with
    |all _ x hx0=>
      obtain ⟨rows,ty,k2,k3,k4⟩:=kx x hx0;exact fin (l0:=l0) (o:=some x) h1 (hh.kill b) (fun b' h=>(Bj b' h).2) rfl (fun y e=>by simp at e;subst e;exact ⟨b,hx0,WC,Td,fun hb=>(Bj b hb).1 rfl⟩) rfl (.inr ⟨x,rows,ty,rfl,by rw [k0],k2,k3,k4⟩) h.1 h.2
    |Nf _ _ _ hl ha=>exact fin (l0:=l0) (o:=none) h1 (hh.kill b) (fun b' h=>(Bj b' h).2) rfl (fun y e=>by simp at e) (by rcases ha with rfl|rfl<;>rfl) (.inl ⟨by rw [<- k0];exact hl,rfl,ha⟩) h.1 h.2
  · simp at h
theorem uu {z:List V.AV} (hz:z.length=1):∀ {qs:List (Nat×V.AV)} {pre:List (List V.AV)},(∀ r q,qs[r]?=some q->q.1=pre.length+r/\q.2.cells?=some [q.2])->V.He (pre++Ja qs.length z) qs=some (pre++qs.map fun q=>[q.2])
 |[],pre,_=>by simp [V.He]
 |(j,a)::qs,pre,h=>by
  obtain ⟨h1,h2⟩:=h 0 (j,a) rfl;simp only [td] at h1 h2;subst h1;have hg:(pre++Ja (qs.length+1) z)[pre.length]?=some z:=by simp [Ka,Ei]
  have hs:(pre++Ja (qs.length+1) z).set pre.length [a]=(pre++[[a]])++Ja qs.length z:=by
   rw [List.set_append_right _ _ (oa _),Nat.sub_self,List.replicate_succ,List.set_cons_zero,od];rfl
  have ih:=uu hz (qs:=qs) (pre:=pre++[[a]]) fun r q hq=>by
   obtain ⟨k1,k2⟩:=h (r+1) q (by simpa using hq);exact ⟨by simp;omega,k2⟩
  simp only [V.He,h2,da,List.length_cons,hg];rw [if_pos (by simp [hz]),hs,ih]
  simp
theorem Xp {t:TypeId} {n:Nat} {ps:List (Nat×UV)} {qs:List (Nat×V.AV)} {v:UV} (h:buildSlice A H t n ps=some (v,H')) (hh:RH m H Hv) (hp:RP m ps qs):∃ a Ic,V.buildSlice A Hv t n qs=some (a,Ic)/\Co m Hv v H' a Ic:=by
 simp only [buildSlice,aa] at h;obtain ⟨e,he,z,hz,⟨c,x0⟩,fS,h⟩:=h;obtain ⟨z0,hz0,hd0,zf,ae,iZ⟩:=Wp fS he;rw [hz] at hz0;simp at hz0;subst hz0;obtain ⟨z',q1,q2,q3⟩:=Fo hz;have Jy:z'.length=z.length:=(q2 m).1;simp only at h;split at h
 case isFalse=>simp at h
 rename_i hc;unfold V.buildSlice;simp only [he,q1,da];rw [if_pos (by rw [Jy];exact ⟨hc,zf,ae⟩)];have hql:qs.length=ps.length:=by have:=congrArg fa hp.1;simpa using this
 split at h
 · rename_i h0;simp at h;obtain ⟨rfl,rfl⟩:=h;rw [if_pos (by rw [hql];exact h0)];exact ⟨_,_,rfl,.same hh .Kd⟩
 · rename_i h0;rw [if_neg (by rw [hql];exact h0)];split at h
   · rename_i r0 qZ;simp at h;subst h;unfold PL at qZ;split at qZ
     case h_2=>simp at qZ
     rename_i c1 x1 Q9;rw [fS] at Q9;simp at Q9;obtain ⟨rfl,_⟩:=Q9;split at qZ
     case isFalse=>simp at qZ
     rename_i hcn;obtain ⟨hlen,cam⟩:=hcn;simp only [aa] at qZ;obtain ⟨⟨L,H1⟩,hdr,qZ⟩:=qZ;simp at qZ;obtain ⟨rfl,rfl⟩:=qZ;obtain ⟨k1,k2,k3,k4,F,k5,k6,k7⟩:=Ou hdr hh hp;have YR:z'.length=1:=by rw [Jy,<- iZ];rfl
     have YT:=uu YR (qs:=qs) (pre:=[]) (fun r q hq=>by obtain ⟨j1,j2⟩:=k4 r q hq;exact ⟨by simpa using j1,j2⟩);simp only [List.nil_append] at YT;rw [hql,hlen] at YT;have oe:=k2.uM (c:=c1) (L:=L) (rows:=qs.map fun q=>[q.2]) (ty:=some (e,1)) (F:=F) (by simp [k1]) (fun r x h=>by
        obtain ⟨_,b,b1,b2,b3,b4⟩:=k5 r x h;exact ⟨⟨b,0,b1⟩,hh.wm b x b1 b2,fun b' s' Pf e'=>b4 ((hh.inj b' b x (k3 b' Pf) b3 e' b1) ▸ Pf)⟩) k6
       (fun r hr=>by
        cases hf:F r with
        |none=>rfl
        |some x=>have:=(k5 r x hf).1;omega) (fun r hr=>by
        have hq:=ya (l:=qs) (i:=r) (by omega);exact ⟨_,by rw [Ob,hq];rfl,k7 r _ hq⟩)
     have hLn:L.length=n:=by rw [k1,hql,hlen]
     rw [hLn] at oe;exact ⟨.sl Hv.bl.length 0 n,V.push Hv (.cells (qs.map fun q=>[q.2]) z'.length (some (e,1))),by rw [YT];rfl,by rw [YR];exact oe⟩
   simp only [aa] at h;obtain ⟨rows,Kc,l,hl,h⟩:=h;simp at h;obtain ⟨rfl,rfl⟩:=h;obtain ⟨Qd,k1,k2,k3,k4⟩:=tu (zl:=z.length) (Qd:=Ja n z') Kc hp (by simp) (fun i row Jb e1 e2=>by
     rw [Ei] at e1 e2;split at e1
     · rename_i hi;rw [if_pos hi] at e2;simp at e1 e2;subst e1;subst e2;exact ⟨q2 m,rfl⟩
     · simp at e1)
   obtain ⟨d1,d2⟩:=TI (m:=m) hl;have hn:rows.length=n:=by rw [k3];simp
   have cS:RT m c l Qd:= .of (by rw [k2,d1]) fun i row hi hr=>by
     have O0:=ya (l:=rows) (i:=i) (by omega);exact d2 i _ O0 (k4 i _ row O0 hr).1
   have BB:l.length=n:=by rw [d1,hn]
   have:=hh.zq cS (zl:=z'.length) (by rw [Jy,iZ]) (ty:=some (e,1));rw [BB] at this;exact ⟨.sl Hv.bl.length 0 n,V.push Hv (.cells Qd z'.length (some (e,1))),by simp [k1],this⟩
theorem NB {t:TypeId} {l c:UV} {K:UV->UH->Option X} (h:makeSlice A H t l c K=some out):
  ∃ v H',K v H'=some out/\H'.wm=H.wm/\∀ (m:Mp) (Hv:V.AH) (l' c':V.AV),RH m H Hv->RV m l l'->RV m c c'->∃ a Ic,V.makeSlice A Hv t l' c'=some (a,Ic)/\Co m Hv v H' a Ic:=by
 unfold makeSlice at h;split at h
 case h_2=>simp at h
 rename_i k1 l0 k2 c0;simp only [aa] at h;obtain ⟨e,he,⟨ct,x0⟩,fS,n,hn,h⟩:=h;obtain ⟨z,hz,hd0,zf,ae,iZ⟩:=Wp fS he;obtain ⟨h0,h⟩:=Ad h;simp only [Ia,decide_eq_true_eq] at h0;refine ⟨_,_,h,rfl,fun m Hv l' c' hh hl uy=> ?_⟩;cases hl;cases uy;obtain ⟨z',q1,q2,q3⟩:=Fo hz;have Jy:z'.length=z.length:=(q2 m).1;have cS:RT m ct (Ja l0.toNat x0) (Ja l0.toNat z'):= .of (by simp) fun i row hi hr=>by
  rw [Ji] at hi;rw [Ei,if_pos hi] at hr;simp at hr;subst hr;have:vw ct (Ja l0.toNat x0) i=enc ct x0:=by simp [vw,Ea,Ei,hi]
  rw [this];exact Jm hd0 (q2 m)
 have:=hh.zq cS (zl:=z'.length) (by rw [Jy,iZ]) (ty:=some (e,1));rw [Ji] at this;refine ⟨.sl Hv.bl.length 0 l0.toNat,V.push Hv (.cells (Ja l0.toNat z') z'.length (some (e,1))),?_,this⟩;simp only [V.makeSlice,he,q1,hn,da];rw [if_pos ⟨h0.1.1.1,h0.1.1.2,h0.1.2,h0.2,by rw [Jy];exact zf,by rw [Jy];exact ae⟩]
theorem kB (m:Mp) (s:ByteArray):RT m (.int .u8) (YL s) (V.ic s):=by
 refine .of (by simp only [V.ic,Ec];exact (Ec ..).symm) fun i row hi hr=> ?_
 simp only [V.ic,Ob,ia] at hr;obtain ⟨b,hb,rfl⟩:=hr;have h1:(YL s)[i]?=some ((b.toNat:Nat):Int):=by
  simp only [YL,Ob,hb,Jc]
 have h2:vw (.int .u8) (YL s) i=[.int .u8 ((b.toNat:Nat):Int)]:=
  congrArg (fun o:Option Int=>[UV.int .u8 (o.getD 0)]) h1
 rw [h2];exact .cons (.int _ _) .nil
theorem vh {y:UV} {c:CT} {g:List (Eb c)} {a:V.AV} (h:rowsOf H c y=some g) (hh:RH m H Hv) (hy:RV m y a):∃ rows,Um Hv a=some rows/\RT m c g rows:=by
 cases hy with
 |lit c' l rows h1 h2 h3=>
  simp only [rowsOf] at h;split at h
  case isFalse=>simp at h
  rename_i hc;subst hc;simp at h;subst h;exact ⟨rows,rfl,h1,fun i _=>⟨tf _ _ _,Pd _ _ _⟩,fun i row _=>h2 i row,fun i row k x a _=>h3 i row k x a⟩
 |Qh c' a ha=>
  simp only [rowsOf] at h;split at h
  case isFalse=>simp at h
  rename_i hc;subst hc;simp at h;subst h;exact ⟨[],by rcases ha with rfl|rfl<;>rfl,.nil⟩
 |all b x hx=>
  simp only [rowsOf] at h;split at h
  case h_2=>simp at h
  rename_i c' l hb;split at h
  case isFalse=>simp at h
  rename_i hc;subst hc;simp at h;subst h;obtain ⟨k0,k1⟩:=uc (s:=⟨[],[],H,0⟩) (sv:=⟨[],[],Hv⟩) hh hb;obtain ⟨rows,ty,k2,k3,k4⟩:=k1 x hx;have uP:Hv.bl[x]?=some (.cells rows (width c') ty):=k2;refine ⟨rows.take l.length,?_,.of (by simp;omega) fun i row hi hr=> ?_⟩
  · show V.rowsOf Hv (.sl x 0 (m.len b 0))=_;simp only [V.rowsOf,uP];rw [if_pos (by omega),k0];simp
  · rw [Ab,if_pos hi] at hr;obtain ⟨Jb,j1,j2,j3⟩:=k4.row k3 hi;rw [j1] at hr;simp at hr;subst hr;exact j2
 |Nf b a nc hl ha=>
  simp only [rowsOf] at h;split at h
  case h_2=>simp at h
  rename_i c' l hb;split at h
  case isFalse=>simp at h
  rename_i hc;subst hc;simp at h;subst h;obtain ⟨k0,k1⟩:=uc (s:=⟨[],[],H,0⟩) (sv:=⟨[],[],Hv⟩) hh hb;have:l=[]:=by rw [hl] at k0;exact Da.1 k0.symm
  subst this;exact ⟨[],by rcases ha with rfl|rfl<;>rfl,.nil⟩
 |sl b r n0 x hx hle=>
  simp only [rowsOf] at h;split at h
  case h_2=>simp at h
  rename_i c' l hb;split at h
  case isFalse=>simp at h
  rename_i hc;subst hc;simp at h;subst h;obtain ⟨k0,k1⟩:=uc (s:=⟨[],[],H,0⟩) (sv:=⟨[],[],Hv⟩) hh hb;obtain ⟨rows,ty,k2,k3,k4⟩:=k1 x hx;have uP:Hv.bl[x]?=some (.cells rows (width c') ty):=k2;have PM:RT m c' l (rows.take l.length):= .of (by simp;omega) fun i row hi hr=>by
    rw [Ab,if_pos hi] at hr;obtain ⟨Jb,j1,j2,j3⟩:=k4.row k3 hi;rw [j1] at hr;simp at hr;subst hr;exact j2
  refine ⟨(rows.drop r).take n0,?_,?_⟩
  · show V.rowsOf Hv (.sl x r n0)=_;simp only [V.rowsOf,uP];rw [if_pos (by omega)]
  · rw [ak];have:=(PM.drop r).take n0;rw [List.drop_take,List.take_take,Nat.min_eq_left (by omega)] at this;exact this
 |cr b r x hx=>
  simp only [rowsOf] at h;split at h
  case h_2=>simp at h
  rename_i c' l hb;split at h
  case isFalse=>simp at h
  rename_i hc;subst hc;have h:some (l.getD r [])=some g:=h;injection h with h
  subst h;obtain ⟨_,k1,_⟩:=Od (s:=⟨[],[],H,0⟩) (sv:=⟨[],[],Hv⟩) hh hb;obtain ⟨YC,rows,ty,k2,k3,k4⟩:=Nu (s:=⟨[],[],H,0⟩) (sv:=⟨[],[],Hv⟩) hh hb hx;have uP:Hv.bl[x]?=some (.cells rows (width c') ty):=k2;refine ⟨rows.take (l.getD r []).length,?_,.of (by rw [dc];omega) fun i row hi hr=> ?_⟩
  · show V.rowsOf Hv (.sl x 0 (m.len b (r+1)))=_;simp only [V.rowsOf,uP];rw [k1 r,if_pos (by omega)];simp
  · rw [Ab,if_pos hi] at hr;obtain ⟨Jb,j1,j2,j3⟩:=k4.row k3 hi;rw [j1] at hr;simp at hr;subst hr;exact j2
 |Ts b r a nc hl ha=>
  simp only [rowsOf] at h;split at h
  case h_2=>simp at h
  rename_i c' l hb;split at h
  case isFalse=>simp at h
  rename_i hc;subst hc;have h:some (l.getD r [])=some g:=h;injection h with h
  subst h;obtain ⟨_,k1,_⟩:=Od (s:=⟨[],[],H,0⟩) (sv:=⟨[],[],Hv⟩) hh hb;have:l.getD r []=[]:=by rw [k1 r] at hl;exact Da.1 hl
  rw [this];exact ⟨[],by rcases ha with rfl|rfl<;>rfl,.nil⟩
 |Jr b r a ha=>
  simp only [rowsOf] at h;split at h
  case h_2=>simp at h
  rename_i c' l hb;split at h
  case isFalse=>simp at h
  rename_i hc;subst hc;simp at h;subst h;exact ⟨[],by rcases ha with rfl|rfl<;>rfl,by rw [ak];exact .nil⟩
 |str s=>
  simp only [rowsOf] at h;split at h
  case isFalse=>simp at h
  rename_i hc;subst hc;injection h with h
  subst h;exact ⟨V.ic s,rfl,kB m s⟩
 |_=>simp [rowsOf] at h
def F4 (m:Mp) (H:UH) (Hv:V.AH) (x:Nat):Prop:=(∃ b s,m.ι b s=some x)/\Hv.wm<=x/\∀ b s,live H b->m.ι b s≠some x
theorem MD (hh:RH m H Hv) {c:CT} {f g:List (List (Eb c))} {xs ys:List (List V.AV)} {Fx Fy:Nat->Option Nat} {ty:Option (TypeId×Nat)} (X0:xs.length=f.length) (hgy:ys.length=g.length)
   (hFx:∀ r x,r<f.length->Fx r=some x->F4 m H Hv x) (hFy:∀ r x,Fy r=some x->F4 m H Hv x) (Ef:∀ r r' x,r<f.length->r'<f.length->Fx r=some x->Fx r'=some x->r=r') (hyi:∀ r r' x,Fy r=some x->Fy r'=some x->r=r')
   (hxy:∀ r r' x,r<f.length->Fx r=some x->Fy r'≠some x) (hyo:∀ r,g.length<=r->Fy r=none) (hrx:∀ r,r<f.length->∃ a,xs[r]?=some [a]/\Ik m Hv (Fx r) c (f.getD r []) a) (hry:∀ r,r<g.length->∃ a,ys[r]?=some [a]/\Ik m Hv (Fy r) c (g.getD r []) a):
   Co m Hv (.all H.bl.length) (push H (.deep c (f++g))) (.sl Hv.bl.length 0 (f++g).length) (V.push Hv (.cells (xs++ys) 1 ty)):=by
 have hF:∀ r x,(if r<f.length then Fx r else Fy (r-f.length))=some x->F4 m H Hv x:=fun r x h=>by
   split at h
   · rename_i hr;exact hFx r x hr h
   · exact hFy _ x h
 refine hh.uM (F:=fun r=>if r<f.length then Fx r else Fy (r-f.length)) (by simp [X0,hgy]) hF (fun r r' x h1 h2=> ?_) (fun r hr=> ?_) (fun r hr=> ?_)
 · split at h1<;>split at h2
   · rename_i a b;exact Ef r r' x a b h1 h2
   · rename_i a b;exact (hxy r _ x a h1 h2).elim
   · rename_i a b;exact (hxy r' _ x b h2 h1).elim
   · have:=hyi _ _ x h1 h2;omega
 · rw [Ud] at hr;rw [if_neg (by omega)];exact hyo _ (by omega)
 · rw [Ud] at hr;by_cases h:r<f.length
   · obtain ⟨a,k1,k2⟩:=hrx r h;refine ⟨a,by rw [Fa (by omega)];exact k1,?_⟩;rw [if_pos h];simp only [Ea] at k2 ⊢;rw [Fa h];exact k2
   · obtain ⟨a,k1,k2⟩:=hry (r-f.length) (by omega);refine ⟨a,by rw [Ka (by omega),X0];exact k1,?_⟩;rw [if_neg h];simp only [Ea] at k2 ⊢;rw [Ka (by omega)];exact k2
theorem NL {y:UV} {b:Nat} {c:CT} {a:List (Eb c)} {l:List (List (Eb c))} (h:AY H y=some (b,⟨c,a,l⟩)):y= .all b/\H.bl[b]?=some (.deep c (a::l))/\H.wm<=b:=by
 unfold AY at h;split at h
 · rename_i b0;split at h
   · rename_i c0 a0 l0 hb;split at h
     · rename_i hw;simp only [yc,Prod.mk.injEq,Sigma.mk.injEq] at h;obtain ⟨rfl,rfl,h⟩:=h;have h:=eq_of_heq h;simp only [Prod.mk.injEq] at h;obtain ⟨rfl,rfl⟩:=h;exact ⟨rfl,hb,hw⟩
     · simp at h
   · simp at h
 · simp at h
theorem OL {x:UV} {b:Nat} {c:CT} {f:List (List (Eb c))} {H0:UH} (h:BY H c b x=some (f,H0)):
   ((x= .Wa\/x= .Kd)/\f=[]/\H0=Ma H b .dead)\/∃ b1,x= .all b1/\H.bl[b1]?=some (.deep c f)/\b1≠b/\H.wm<=b1/\H0=Ma (Ma H b1 .dead) b .dead:=by
 unfold BY at h;split at h
 · simp at h;exact .inl ⟨.inl rfl,h.1.symm ▸ rfl,h.2.symm⟩
 · simp at h;exact .inl ⟨.inr rfl,h.1.symm ▸ rfl,h.2.symm⟩
 · rename_i b1;split at h
   · rename_i c' l hb;split at h
     · rename_i hc;obtain ⟨rfl,h1,h2⟩:=hc;simp at h;obtain ⟨rfl,rfl⟩:=h;exact .inr ⟨b1,rfl,hb,h1,h2,rfl⟩
     · simp at h
   · simp at h
 · simp at h
theorem bM {ts:Array TypeId} {x y:UV} {K:UV->UH->Option X} (h:append A H ts x y K=some out):
   ∃ v H',K v H'=some out/\H'.wm=H.wm/\∀ (m:Mp) (Hv:V.AH) (x' y':V.AV),RH m H Hv->RV m x x'->RV m y y'->∃ a Ic,V.append A Hv ts x' y'=some (a,Ic)/\Co m Hv v H' a Ic:=by
 simp only [append,aa] at h;obtain ⟨t,ht,e,he,⟨c,x0⟩,fS,nb,hnb,_,UE,h⟩:=h;obtain ⟨z,hz,hd0,zf,ae,iZ⟩:=Wp fS he;obtain ⟨z',q1,q2,q3⟩:=Fo hz;have Jy:z'.length=z.length:=(q2 ⟨fun _ _=>none,fun _ _=>0,0⟩).1;simp only at h;have Un:∀ (Hv:V.AH) (x' y':V.AV) (xs ys:List (List V.AV)),V.rowsOf Hv x'=some xs->Um Hv y'=some ys->
     (xs.length+ys.length) * nb<=70368744177664->xs.length+ys.length<9223372036854775808->(∀ r∈ys,r.length=width c)->
     V.append A Hv ts x' y'=if ys.length=0 then some (x',Hv) else jt Hv x' xs ys z'.length e:=fun Hv x' y' xs ys h1 h2 h3 h4 h5=>by
   unfold V.append;simp only [ht,he,q1,hnb,da];have fin:(V.rowsOf Hv x').bind (fun xs=>(Um Hv y').bind fun ys=>
     if (xs.length+ys.length) * nb<=70368744177664/\xs.length+ys.length<9223372036854775808/\0<z'.length/\V.size A e=some z'.length/\ys.all (fun r=>r.length==z'.length) then
       if ys.length=0 then some (x',Hv) else jt Hv x' xs ys z'.length e
     else none)=if ys.length=0 then some (x',Hv) else jt Hv x' xs ys z'.length e:=by
     rw [h1,da,h2,da,if_pos ⟨h3,h4,by rw [Jy];exact zf,by rw [Jy];exact ae,Yb.2 fun r hr=>by simp [Jy,<- iZ];exact h5 r hr⟩]
   cases YB:ts[1]? with
   |none=>exact fin
   |some u=>
     rw [YB] at UE;cases hu:A.P.underlying u with
     |none=>simp [hu] at UE
     |some d=>
       simp only [hu] at UE;simp only [hu];cases d<;>first|exact fin|(simp at UE)
 have hzw:z'.length=width c:=by rw [Jy,iZ]
 have jj:∀ {y:UV},(y= .Wa\/y= .Kd)->(x= .Wa\/x= .Kd)->K x H=some out->∃ v H',K v H'=some out/\H'.wm=H.wm/\∀ (m:Mp) (Hv:V.AH) (x' y':V.AV),RH m H Hv->RV m x x'->RV m y y'->∃ a Ic,V.append A Hv ts x' y'=some (a,Ic)/\Co m Hv v H' a Ic:=fun {y} hy hx h=>by
   refine ⟨x,H,h,rfl,fun m Hv x' y' hh HM AP=> ?_⟩;have dw:Um Hv y'=some []:=by rcases hy with rfl|rfl<;>cases AP<;>rfl
   have Fq:V.rowsOf Hv x'=some []:=by rcases hx with rfl|rfl<;>cases HM<;>rfl
   exact ⟨x',Hv,by rw [Un Hv x' y' [] [] Fq dw (by simp) (by simp) (by simp)];rfl,.same hh HM⟩
 have T4:∀ {m:Mp} {H0:UH} {Hv:V.AH} {x' y':V.AV} {g:List (Eb c)} {ys:List (List V.AV)},RH m H0 Hv->(x'= .Wa\/x'= .Kd)->Um Hv y'=some ys->RT m c g ys->
     g.length * nb<=70368744177664->g.length<9223372036854775808->∃ a Ic,V.append A Hv ts x' y'=some (a,Ic)/\Co m Hv (.all H0.bl.length) (push H0 (.cells c g)) a Ic:=fun {m H0 Hv x' y' g ys} hh ZR k1 k2 h1 h2=>by
   have Fq:V.rowsOf Hv x'=some []:=by rcases ZR with rfl|rfl<;>rfl
   have hv:=Un Hv x' y' [] ys Fq k1 (by simpa [k2.1] using h1) (by simpa [k2.1] using h2) (fun r hr=>k2.rows hr);by_cases NT:g.length=0
   · rw [if_pos (by rw [k2.1];exact NT)] at hv;have hp:=hh.push (Ic:=Hv) (y:= .cells c g) (x:=none) (n:=0) (fun _ _ _ _ _=>rfl) (oa _) rfl (fun xv e=>by simp at e) ⟨by rw [xd];exact NT.symm,.inl ⟨NT,Vd _ _ _ _⟩⟩;refine ⟨x',Hv,hv,_,hp.1,.Nf _ x' (by simp [Mp.add,Mp.Fi]) (xd _ _ _ _) ZR,hp.2,⟨tg hh _ _,fun _ _ _=>rfl,fun b _ xv hb=> ?_,oa _,rfl⟩⟩;by_cases e:b=H0.bl.length
     · subst e;obtain ⟨_,e⟩:=zi hb;simp at e
     · rw [vf _ _ _ e] at hb;exact .inl ⟨b,_,hb⟩
   · rw [if_neg (by rw [k2.1];exact NT)] at hv;refine ⟨.sl Hv.bl.length 0 g.length,V.push Hv (.cells ys z'.length (some (e,1))),?_,hh.zq k2 hzw⟩;rw [hv];rcases ZR with rfl|rfl<;>simp [jt,k2.1]
 have Q0:∀ {g:List (Eb c)},(x= .Wa\/x= .Kd)->rowsOf H c y=some g->ask (decide (g.length * nb<=70368744177664)&&decide (g.length<9223372036854775808)) (K (.all H.bl.length) (push H (.cells c g)))=some out->
     ∃ v H',K v H'=some out/\H'.wm=H.wm/\∀ (m:Mp) (Hv:V.AH) (x' y':V.AV),RH m H Hv->RV m x x'->RV m y y'->∃ a Ic,V.append A Hv ts x' y'=some (a,Ic)/\Co m Hv v H' a Ic:=fun {g} hx Kc h=>by
   obtain ⟨h0,h⟩:=Ad h;simp only [Ia,decide_eq_true_eq] at h0;refine ⟨_,_,h,rfl,fun m Hv x' y' hh HM AP=> ?_⟩;obtain ⟨ys,k1,k2⟩:=vh Kc hh AP;have ZR:x'= .Wa\/x'= .Kd:=by rcases hx with rfl|rfl<;>cases HM<;>simp
   exact T4 hh ZR k1 k2 h0.1 h0.2
 have Bo:∀ {b n0 r0:Nat} {f g:List (Eb c)},(g=[]->r0=0)->H.wm<=b->rowsOf H c x=some f->rowsOf H c y=some g->(∀ {m:Mp} {Hv:V.AH} {x':V.AV},RH m H Hv->RV m x x'->n0=f.length/\((∃ xi,m.ι b 0=some xi/\x'= .sl xi r0 n0)\/((x'= .Wa\/x'= .Kd)/\f=[])))->(∃ c' l',H.bl[b]?=some (.cells c' l')/\c'=c)->
     ask (decide ((n0+g.length) * nb<=70368744177664)&&decide (n0+g.length<9223372036854775808)) (K (.all H.bl.length) (push (Ma H b .dead) (.cells c (f++g))))=some out->
     ∃ v H',K v H'=some out/\H'.wm=H.wm/\∀ (m:Mp) (Hv:V.AH) (x' y':V.AV),RH m H Hv->RV m x x'->RV m y y'->∃ a Ic,V.append A Hv ts x' y'=some (a,Ic)/\Co m Hv v H' a Ic:=fun {b n0 r0 f g} hg0 WC X0 Kc eK ⟨c',l',hb,uy⟩ h=>by
   obtain ⟨h0,h⟩:=Ad h;simp only [Ia,decide_eq_true_eq] at h0;refine ⟨_,_,h,rfl,fun m Hv x' y' hh HM AP=> ?_⟩;obtain ⟨ys,k1,k2⟩:=vh Kc hh AP;obtain ⟨xs,j1,j2⟩:=vh X0 hh HM;have Td:live H b:=⟨_,hb,rfl⟩;have Ii:=hh.kill b;have Bj:∀ {b'},live (Ma H b .dead) b'->b'≠b/\live H b':=fun h=>by
     rcases ag h with ⟨_,h'⟩|h'
     · simp [Sd] at h'
     · exact h'
   have hlen:(Ma H b .dead).bl.length=H.bl.length:=by simp [Ma]
   obtain ⟨jK,eK⟩:=eK hh HM;rcases eK with ⟨xi,Ef,rfl⟩|⟨ZR,rfl⟩
   · have j1':V.rowsOf Hv (.sl xi r0 n0)=some xs:=j1;have zac:=hh.wm b xi Ef WC;subst uy;obtain ⟨kb,kx⟩:=uc (s:=⟨[],[],H,0⟩) (sv:=⟨[],[],Hv⟩) hh hb;obtain ⟨rows,ty,i2,i3,i4⟩:=kx xi Ef;have P8:Hv.bl[xi]?=some (.cells rows (width c') ty):=i2;have hv:=Un Hv (.sl xi r0 n0) y' xs ys j1' k1 (by rw [j2.1,k2.1,<- jK];exact h0.1) (by rw [j2.1,k2.1,<- jK];exact h0.2) (fun r hr=>k2.rows hr);by_cases NT:g.length=0
     · rw [if_pos (by rw [k2.1];exact NT)] at hv;have Qr:g=[]:=Da.1 NT;have O0:=hg0 Qr;subst O0;subst Qr;rw [Qm];have hp:=Ii.push (Ic:=Hv) (y:= .cells c' f) (x:=some xi) (n:=f.length) (fun _ _ _ _ _=>rfl) (oa _) rfl (fun xv e=>by
         simp at e;subst e;exact ⟨(hh.Ae b xi Ef).2,zac,fun b' s' Pf e'=>(Bj Pf).1 (hh.inj b' b xi (Bj Pf).2 Td e' Ef)⟩) (by
         have wP:=j1';simp only [V.rowsOf,P8] at wP;split at wP
         case isFalse=>simp at wP
         rename_i hle;simp at wP;refine ⟨xd _ _ _ _,.inr ⟨xi,rows,ty,Vd _ _ _ _,P8,by omega,?_⟩⟩;refine ⟨fun i _=>⟨tf _ _ _,Pd _ _ _⟩,fun i row hi hr=> ?_,fun i row k y a hi hr h1 h2=> ?_⟩
         · have:xs[i]?=some row:=by rw [<- wP,Ab,if_pos (by omega)];exact hr
           exact j2.rows (jb this)
         · have:xs[i]?=some row:=by rw [<- wP,Ab,if_pos (by omega)];exact hr
           exact ((j2.get this).free _ (Pd _ _ _)).2 k y a h1 h2)
       rw [hlen] at hp;refine ⟨.sl xi 0 n0,Hv,hv,_,hp.1,?_,hp.2,⟨by have:=tg Ii;simpa only [hlen] using this _ _,fun _ _ _=>rfl,fun b' _ xv zd=> ?_,oa _,rfl⟩⟩
       · have:=RV.all (m:=m.add H.bl.length (some xi) f.length) H.bl.length xi (Vd _ _ _ _);rw [xd,<- jK] at this;rw [jK] at this ⊢;exact this
       · by_cases e:b'=H.bl.length
         · subst e;obtain ⟨_,e⟩:=zi zd;simp at e;subst e;exact .inl ⟨b,_,Ef⟩
         · rw [vf _ _ _ e] at zd;exact .inl ⟨b',_,zd⟩
     · rw [if_neg (by rw [k2.1];exact NT)] at hv;have Cd:=Ii.other (x:=xi) (fun b' s' Pf e'=>(Bj Pf).1 (hh.inj b' b xi (Bj Pf).2 Td e' Ef)) .dead;have oe:=Cd.zq (j2.append k2) (zl:=z'.length) hzw (ty:=V.Wx (V.kE Hv xi) e r0);rw [hlen] at oe;have CP:(V.Ma Hv xi .dead).bl.length=Hv.bl.length:=by simp [V.Ma]
       rw [CP] at oe;obtain ⟨m',e1,e2,e3,e4⟩:=oe;have g1:Ej m.top m Hv m (V.Ma Hv xi .dead):=⟨.refl (oa _),fun x' jk oZ=>by rw [Ac,if_neg (fun e=>oZ b 0 (by rw [<- e];exact Ef))],fun b' s' x' zd=> .inl ⟨b',s',zd⟩,by simp [V.Ma],rfl⟩;refine ⟨_,_,?_,m',e1,e2,e3,g1.trans e4 (oa _)⟩;rw [hv];simp only [jt];rw [if_pos ⟨zac,by simp only [V.Aj,P8];rw [hzw]⟩,j2.1,k2.1,Ud]
   · rw [List.nil_append];simp only [ek] at jK;have:=T4 Ii ZR k1 k2 (by simpa [jK] using h0.1) (by simpa [jK] using h0.2);rw [hlen] at this;exact this
 have MM:∀ {y:UV},(y= .Wa\/y= .Kd)->((rowsOf H c x).bind fun f=>ask (decide (f.length * nb<=70368744177664)&&decide (f.length<9223372036854775808)) (K x H))=some out->(∀ s,x≠ .str s)->
     ∃ v H',K v H'=some out/\H'.wm=H.wm/\∀ (m:Mp) (Hv:V.AH) (x' y':V.AV),RH m H Hv->RV m x x'->RV m y y'->∃ a Ic,V.append A Hv ts x' y'=some (a,Ic)/\Co m Hv v H' a Ic:=fun {y} hy h xH=>by
   simp only [aa] at h;obtain ⟨f,hf,h⟩:=h;obtain ⟨h0,h⟩:=Ad h;simp only [Ia,decide_eq_true_eq] at h0;refine ⟨x,H,h,rfl,fun m Hv x' y' hh HM AP=> ?_⟩;have dw:Um Hv y'=some []:=by rcases hy with rfl|rfl<;>cases AP<;>rfl
   obtain ⟨xs,j1,j2⟩:=vh hf hh HM;have j1':V.rowsOf Hv x'=some xs:=by
     cases x'<;>first|exact j1|skip
     cases HM with
     |str=>exact (xH _ rfl).elim
     |Qb=>simp [rowsOf] at hf
     |Jr _ _ _ ha=>simp at ha
     |Nf _ _ _ _ ha=>simp at ha
     |Ts _ _ _ _ _ ha=>simp at ha
     |Qh _ _ ha=>simp at ha
   exact ⟨x',Hv,by rw [Un Hv x' y' xs [] j1' dw (by simpa [j2.1] using h0.1) (by simpa [j2.1] using h0.2) (by simp)];rfl,.same hh HM⟩
 split at h
 · rename_i b c' a l hdy;split at h
   case isFalse=>simp at h
   rename_i Si;simp only [aa] at h;obtain ⟨⟨f,H0⟩,hX,h⟩:=h;obtain ⟨h0,h⟩:=Ad h;simp only [Ia,decide_eq_true_eq] at h0;obtain ⟨rfl,hb,WC⟩:=NL hdy;have hX:=OL hX;refine ⟨_,_,h,by rcases hX with ⟨_,_,rfl⟩|⟨_,_,_,_,_,rfl⟩<;>rfl,fun m Hv x' y' hh HM AP=> ?_⟩;obtain ⟨k0,k1,kx⟩:=Od (s:=⟨[],[],H,0⟩) (sv:=⟨[],[],Hv⟩) hh hb;obtain ⟨_,b0,_⟩:=hh.Oc b _ hb;have JP:live H b:=⟨_,hb,rfl⟩;cases AP with
   |Nf _ _ _ hl _=>rw [k0] at hl;simp at hl
   |all _ xb mA=>
     obtain ⟨Kt,tyb,i2,i3,i4⟩:=kx xb mA;have P8:Hv.bl[xb]?=some (.cells Kt 1 tyb):=i2;have dw:Um Hv (.sl xb 0 (m.len b 0))=some (Kt.take (a::l).length):=by
       show V.rowsOf Hv (.sl xb 0 (m.len b 0))=_;simp only [V.rowsOf,P8];rw [k0,if_pos (by omega)];simp
     have BP:(Kt.take (a::l).length).length=(a::l).length:=by rw [dc];omega
     have AP:∀ r,r<(a::l).length->∃ a',(Kt.take (a::l).length)[r]?=some [a']/\Ik m Hv (m.ι b (r+1)) c' ((a::l).getD r []) a':=fun r hr=>by
       obtain ⟨a',j1,j2⟩:=i4 r hr;exact ⟨a',by rw [Ab,if_pos hr];exact j1,j2⟩
     have Aac:∀ r∈Kt.take (a::l).length,r.length=width c:=fun r hr=>by
       obtain ⟨i,hi⟩:=Yd hr;have hil:=Ua hi;rw [BP] at hil;obtain ⟨a',j1,_⟩:=AP i hil;rw [hi] at j1;simp at j1;subst j1;rw [Si];rfl
     have YR:z'.length=1:=by rw [hzw,Si];rfl
     have hFy:∀ {H0:UH} {mS:V.AH},(∀ {b'},live H0 b'->b'≠b/\live H b')->mS.wm=Hv.wm->∀ r x,m.ι b (r+1)=some x->F4 m H0 mS x:=fun {H0 mS} Bj Of r x hx=>⟨⟨b,_,hx⟩,by rw [Of];exact hh.wm b x hx WC,fun b' s' Pf e'=>(Bj Pf).1 (hh.inj b' b x (Bj Pf).2 JP e' hx)⟩
     have hyi:∀ r r' x,m.ι b (r+1)=some x->m.ι b (r'+1)=some x->r=r':=fun r r' x e e'=>by have:=(hh.zm b b x JP JP e e').2;omega
     have NT:¬ (Kt.take (a::l).length).length=0:=by rw [BP];simp
     have onN:∀ {H0:UH},RH m H0 Hv->(∀ {b'},live H0 b'->b'≠b/\live H b')->(x'= .Wa\/x'= .Kd)->(a::l).length * nb<=70368744177664->(a::l).length<9223372036854775808->∃ a' Ic,V.append A Hv ts x' (.sl xb 0 (m.len b 0))=some (a',Ic)/\Co m Hv (.all H0.bl.length) (push H0 (.deep c' ([]++a::l))) a' Ic:=fun {H0} I5 Bj ZR q1 q2=>by
       have Fq:V.rowsOf Hv x'=some []:=by rcases ZR with rfl|rfl<;>rfl
       have hv:=Un Hv x' _ [] _ Fq dw (by rw [BP];simpa using q1) (by rw [BP];simpa using q2) Aac;rw [if_neg NT] at hv;have hj:=MD (f:=[]) (g:=a::l) (xs:=[]) (ys:=Kt.take (a::l).length) (Fx:=fun _=>none) (Fy:=fun r=>m.ι b (r+1)) (ty:=some (e,1)) I5 rfl BP (fun r x hr=>by simp at hr) (hFy Bj rfl) (fun r r' x hr=>by simp at hr) hyi (fun r r' x hr=>by simp at hr) (fun r hr=>(b0 r).2 hr) (fun r hr=>by simp at hr) AP;refine ⟨.sl Hv.bl.length 0 ([]++a::l).length,V.push Hv (.cells ([]++Kt.take (a::l).length) 1 (some (e,1))),?_,hj⟩;rw [hv];rcases ZR with rfl|rfl<;>simp only [jt,BP,YR,List.nil_append]
     rcases hX with ⟨ZR,rfl,rfl⟩|⟨b1,rfl,Om,Nc,Bac,rfl⟩
     · have sag:x'= .Wa\/x'= .Kd:=by rcases ZR with rfl|rfl<;>cases HM<;>simp
       exact onN (hh.kill b) (fun h=>by rcases ag h with ⟨_,h'⟩|h';simp [Sd] at h';exact h') sag (by simpa using h0.1) (by simpa using h0.2)
     · have zH:live H b1:=⟨_,Om,rfl⟩;have I5:=(hh.kill b1).kill b;have Bj:∀ {b'},live (Ma (Ma H b1 .dead) b .dead) b'->b'≠b/\b'≠b1/\live H b':=fun h=>by
         rcases ag h with ⟨_,h'⟩|⟨h1,h'⟩
         · simp [Sd] at h'
         · rcases ag h' with ⟨_,h'⟩|⟨h2,h'⟩
           · simp [Sd] at h'
           · exact ⟨h1,h2,h'⟩
       obtain ⟨q0,q1,qx⟩:=Od (s:=⟨[],[],H,0⟩) (sv:=⟨[],[],Hv⟩) hh Om;cases HM with
       |Nf _ _ _ hl ha=>
         have hf:f=[]:=by rw [q0] at hl;exact Da.1 hl
         subst hf;exact onN I5 (fun h=>⟨(Bj h).1,(Bj h).2.2⟩) ha (by simpa using h0.1) (by simpa using h0.2)
       |all _ x1 dj=>
         obtain ⟨cm,ty1,p2,p3,p4⟩:=qx x1 dj;have p2':Hv.bl[x1]?=some (.cells cm 1 ty1):=p2;have Fq:V.rowsOf Hv (.sl x1 0 (m.len b1 0))=some (cm.take f.length):=by
           simp only [V.rowsOf,p2'];rw [q0,if_pos (by omega)];simp
         have EG:(cm.take f.length).length=f.length:=by rw [dc];omega
         have hv:=Un Hv (.sl x1 0 (m.len b1 0)) _ _ _ Fq dw (by rw [EG,BP];exact h0.1) (by rw [EG,BP];exact h0.2) Aac;rw [if_neg NT] at hv;have yT:=hh.wm b1 x1 dj Bac;have Cd:=I5.other (x:=x1) (fun b' s' Pf e'=>(Bj Pf).2.1 (hh.inj b' b1 x1 (Bj Pf).2.2 zH e' dj)) .dead;have Wb:∀ {b' s':Nat} {x:Nat},m.ι b' (s'+1)=some x->(b'=b\/b'=b1)->(V.Ma Hv x1 .dead).bl[x]?=Hv.bl[x]?:=fun {b' s' x} e hbb=>by
           rw [Ac,if_neg]
           rintro rfl
           rcases hbb with rfl|rfl
           · exact Nc ((hh.inj b' b1 x1 JP zH e dj).symm)
           · have:=(hh.zm b' b' x1 zH zH e dj).2;omega
         have hj:=MD (f:=f) (g:=a::l) (xs:=cm.take f.length) (ys:=Kt.take (a::l).length) (Fx:=fun r=>m.ι b1 (r+1)) (Fy:=fun r=>m.ι b (r+1)) (ty:=V.Wx (V.kE Hv x1) e 0) Cd EG BP
           (fun r x _ hx=>⟨⟨b1,_,hx⟩,hh.wm b1 x hx Bac,fun b' s' Pf e'=>(Bj Pf).2.1 (hh.inj b' b1 x (Bj Pf).2.2 zH e' hx)⟩)
           (hFy (fun h=>⟨(Bj h).1,(Bj h).2.2⟩) rfl) (fun r r' x _ _ e e'=>by have:=(hh.zm b1 b1 x zH zH e e').2;omega) hyi (fun r r' x _ e e'=>Nc (hh.inj b1 b x zH JP e e')) (fun r hr=>(b0 r).2 hr)
           (fun r hr=>by
             obtain ⟨a',j1,j2⟩:=p4 r hr;exact ⟨a',by rw [Ab,if_pos hr];exact j1,j2.keep (fun _ _ _ h=>h) fun x hx=>Wb hx (.inr rfl)⟩)
           (fun r hr=>by
             obtain ⟨a',j1,j2⟩:=AP r hr;exact ⟨a',j1,j2.keep (fun _ _ _ h=>h) fun x hx=>Wb hx (.inl rfl)⟩)
         have CP:(V.Ma Hv x1 .dead).bl.length=Hv.bl.length:=by simp [V.Ma]
         rw [CP] at hj;obtain ⟨m',e1,e2,e3,e4⟩:=hj;have g1:Ej m.top m Hv m (V.Ma Hv x1 .dead):=⟨.refl (oa _),fun x' jk oZ=>by rw [Ac,if_neg (fun e=>oZ b1 0 (by rw [<- e];exact dj))],fun b' s' x' zd=> .inl ⟨b',s',zd⟩,by simp [V.Ma],rfl⟩;refine ⟨_,_,?_,m',e1,e2,e3,g1.trans e4 (oa _)⟩;rw [hv];simp only [jt];rw [if_pos ⟨yT,by simp only [V.Aj,p2'];rw [YR]⟩,EG,BP,YR,Ud]
 rename_i hdy;split at h
 · split at h
   · exact jj (.inl rfl) (.inl rfl) h
   · exact jj (.inl rfl) (.inr rfl) h
   · split at h
     · simp at h
     · rename_i xH;exact MM (.inl rfl) h fun s e=>xH s e
 · split at h
   · exact jj (.inr rfl) (.inl rfl) h
   · exact jj (.inr rfl) (.inr rfl) h
   · split at h
     · simp at h
     · rename_i xH;exact MM (.inr rfl) h fun s e=>xH s e
 · simp only [aa] at h;obtain ⟨g,hg,h⟩:=h;split at h
   · exact Q0 (.inl rfl) hg h
   · exact Q0 (.inr rfl) hg h
   · rename_i b r0 n0;split at h
     · simp at h
     rename_i a g';split at h
     case isFalse=>simp at h
     rename_i hw;simp only [aa] at h;obtain ⟨f,hf,h⟩:=h;have P9:=hf;simp only [rowsOf] at hf;split at hf
     case h_2=>simp at hf
     rename_i c' l hb;split at hf
     case isFalse=>simp at hf
     rename_i hc;subst hc;simp at hf;subst hf;refine Bo (r0:=r0+1) (fun e=>by simp at e) hw P9 hg (fun {m Hv x'} hh hx=> ?_) ⟨_,_,hb,rfl⟩ h;obtain ⟨k0,_⟩:=uc (s:=⟨[],[],H,0⟩) (sv:=⟨[],[],Hv⟩) hh hb;cases hx with
     |sl _ _ _ xi Ef hle=>exact ⟨by rw [ak];simp;omega,.inl ⟨xi,Ef,rfl⟩⟩
     |Jr _ _ _ ha=>exact ⟨by rw [ak];simp,.inr ⟨ha,by rw [ak];simp⟩⟩
   · rename_i b n0 _ _;split at h
     case isFalse=>simp at h
     rename_i hw;simp only [aa] at h;obtain ⟨f,hf,h⟩:=h;have P9:=hf;simp only [rowsOf] at hf;split at hf
     case h_2=>simp at hf
     rename_i c' l hb;split at hf
     case isFalse=>simp at hf
     rename_i hc;subst hc;simp at hf;subst hf;refine Bo (fun _=>rfl) hw P9 hg (fun {m Hv x'} hh hx=> ?_) ⟨_,_,hb,rfl⟩ h;obtain ⟨k0,_⟩:=uc (s:=⟨[],[],H,0⟩) (sv:=⟨[],[],Hv⟩) hh hb;cases hx with
     |sl _ _ _ xi Ef hle=>exact ⟨by rw [ak];simp;omega,.inl ⟨xi,Ef,rfl⟩⟩
     |Jr _ _ _ ha=>exact ⟨by rw [ak];simp,.inr ⟨ha,by rw [ak];simp⟩⟩
   · rename_i b _ _;split at h
     case isFalse=>simp at h
     rename_i hw;simp only [aa] at h;obtain ⟨f,hf,h⟩:=h;have P9:=hf;simp only [rowsOf] at hf;split at hf
     case h_2=>simp at hf
     rename_i c' l hb;split at hf
     case isFalse=>simp at hf
     rename_i hc;subst hc;simp at hf;subst hf;refine Bo (fun _=>rfl) hw P9 hg (fun {m Hv x'} hh hx=> ?_) ⟨_,_,hb,rfl⟩ h;obtain ⟨k0,_⟩:=uc (s:=⟨[],[],H,0⟩) (sv:=⟨[],[],Hv⟩) hh hb;cases hx with
     |all _ xi Ef=>exact ⟨rfl,.inl ⟨xi,Ef,by rw [k0]⟩⟩
     |Nf _ _ _ hl ha=>exact ⟨rfl,.inr ⟨ha,Da.1 (by omega)⟩⟩
   · simp at h
end
end Go.U
