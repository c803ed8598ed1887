/- A second evaluator, over rows of Lean values, and that it is right over the first. -/
import Derived.Test.YtcbcifeaalkdfaaGreatDoorA1
import Derived.Test.YtcbcifeaalkdfaaGreatDoorA4
set_option linter.unusedVariables false
set_option linter.unusedSimpArgs false
set_option linter.unusedSectionVars false
open Bool renaming and_eq_true→Ab
open List renaming replicate→fb,range→mb,mem_append→jh,mem_of_getElem?→Eb,all_eq_true→ec,getElem?_map→xe,getElem?_eq_none→Nb,getElem?_eq_getElem→Da,getElem?_drop→Lc,getElem?_take→Jb,getElem?_append_left→Ja,getElem?_append_right→Oa,mem_cons→me,getElem?_of_mem→Ve,append_assoc→Je,getElem?_set→Cc,getD_eq_getElem?_getD→Fb,length_set→Wa,getElem?_replicate→Gi,length→fa,length_replicate→Nv,length_map→Qh,length_eq_zero_iff→Gb,length_take→je,length_append→oe,length_nil→Om
open Nat renaming le_refl→ya,le_trans→Db,lt_of_lt_of_le→Sa,lt_or_ge→dc,zero_add→Qf,add_zero→ug
open Option renaming map_eq_some_iff→ja,bind_eq_some_iff→aa,bind_some→da,map_some→Yd
open Option.some renaming injEq→Wc
open Prod.mk renaming injEq→Qe
namespace Go.U
open Go
inductive CT where
 |bool
 |int (k:IntKind)
 |str
 |slice (c:CT)
 |pair (a b:CT)
 deriving DecidableEq,Inhabited
def Ib:CT->Type
 | .bool=>Bool
 | .int _=>Int
 | .str=>ByteArray
 | .slice c=>List (Ib c)
 | .pair a b=>Ib a×Ib b
def width:CT->Nat
 | .pair a b=>width a+width b
 |_=>1
def GX:(c:CT)->Ib c
 | .bool=>false
 | .int _=>(0:Int)
 | .str=>ByteArray.empty
 | .slice _=>[]
 | .pair a b=>(GX a,GX b)
inductive KT where
 |int (k:IntKind)
 |str
 deriving DecidableEq,Inhabited
def Zd:KT->Type
 | .int _=>Int
 | .str=>ByteArray
def NK:(k:KT)->Zd k->Zd k->Bool
 | .int _=>λ(a b:Int)=>decide (a=b)
 | .str=>λ(a b:ByteArray)=>a==b
inductive UV where
 |Dc
 |bool (b:Bool)
 |int (k:IntKind) (n:Int)
 |str (s:ByteArray)
 |Hf
 |ptr (b c:Nat)
 |Lm (b r c:Nat)
 |ee (row:List UV)
 |Xa
 |Ef
 |sl (b r n:Nat)
 |all (b:Nat)
 |Rt (b r:Nat)
 |Dq (b r j c:Nat)
 |lit (c:CT) (l:List (Ib c))
 |ig
 |mp (b:Nat)
 |og
 |fn (f:FuncId) (Lh:List UV)
 |yl (b:Nat)
 |zh
 |agg (cells:List UV)
 |Re (vs:List UV)
 deriving Inhabited
inductive UB where
 |dead
 |Ee (row:List UV)
 |cells (c:CT) (l:List (Ib c))
 |deep (c:CT) (l:List (List (Ib c)))
 |Jg (k:KT) (es:List (Zd k×UV))
 |Pe (k:KT) (g:Bool) (c:CT) (l:List (Zd k×Ib c))
 |loop (id:Nat) (env:List (Nat×UV)) (st:LoopState) (pe:V.Ex)
 |Un (q:UV)
 |Fq (s:ByteArray)
 deriving Inhabited
structure RFn where
 n:Nat
 ps:List Nat
 assign:Code
 body:Code
class Uv where
 rf:Nat->RFn
 bT:TypeId
 uT:TypeId
structure UH where
 bl:List UB
 wm:Nat
inductive US where
 |v (a:UV)
 |loc (i c:Nat)
structure St where
 e:List (Nat×US)
 F:List (List UV)
 H:UH
 base:Nat
def fN{α:Type}(n:Nat)(k:Nat->α):α:=match n with|0=>k 0|m+1=>k (m+1)
def fL{α β:Type}(l:List β)(k:List β->α):α:=match l with|[]=>k []|x::xs=>fL xs λxs=>k (x::xs)
def fV{α:Type}(v:UV)(k:UV->α):α:=
 match v with
 | .Dc=>k .Dc
 | .bool b=>k (.bool b)
 | .int t n=>k (.int t n)
 | .str s=>k (.str s)
 | .Hf=>k .Hf
 | .ptr b c=>fN b λb=>fN c λc=>k (.ptr b c)
 | .Lm b r c=>fN b λb=>fN c λc=>k (.Lm b r c)
 | .ee row=>fL row λrow=>k (.ee row)
 | .Xa=>k .Xa
 | .Ef=>k .Ef
 | .sl b r n=>fN b λb=>k (.sl b r n)
 | .all b=>fN b λb=>k (.all b)
 | .Rt b r=>fN b λb=>k (.Rt b r)
 | .Dq b r j c=>fN b λb=>fN c λc=>k (.Dq b r j c)
 | .lit c l=>k (.lit c l)
 | .ig=>k .ig
 | .mp b=>fN b λb=>k (.mp b)
 | .og=>k .og
 | .fn f cs=>fL cs λcs=>k (.fn f cs)
 | .yl b=>fN b λb=>k (.yl b)
 | .zh=>k .zh
 | .agg cs=>fL cs λcs=>k (.agg cs)
 | .Re vs=>fL vs λvs=>k (.Re vs)
def fU{α:Type}(v:US)(k:US->α):α:=
 match v with
 | .v a=>fV a λa=>k (.v a)
 | .loc i c=>fN i λi=>fN c λc=>k (.loc i c)
def fSt{α:Type}(s:St)(k:St->α):α:=
 match s with
 |⟨e,F,⟨bl,wm⟩,base⟩=>fL F λF=>fL bl λbl=>fN wm λwm=>fN base λbase=>(match e with|[]=>k ⟨[],F,⟨bl,wm⟩,base⟩|x::l=>k ⟨x::l,F,⟨bl,wm⟩,base⟩)
theorem U0{α:Type}(n:Nat)(k:Nat->α):fN n k=k n:=by cases n<;>rfl
theorem gH{α β:Type}:∀(l:List β)(k:List β->α),fL l k=k l
 |[],_=>rfl
 |x::xs,k=>by simp only[fL,gH xs]
theorem San{α:Type}(v:UV)(k:UV->α):fV v k=k v:=by cases v<;>simp only[fV,U0,gH]
theorem Oac{α:Type}(v:US)(k:US->α):fU v k=k v:=by cases v<;>simp only[fU,San,U0]
theorem S0{α:Type}(s:St)(k:St->α):fSt s k=k s:=by
 obtain⟨e,F,⟨bl,wm⟩,base⟩:=s;simp only[fSt,U0,gH];cases e<;>rfl
def enc:(c:CT)->Ib c->List UV
 | .bool,b=>[.bool b]
 | .int k,n=>[.int k n]
 | .str,s=>[.str s]
 | .slice c,l=>[.lit c l]
 | .pair a b,(x,y)=>enc a x++enc b y
def dec:(c:CT)->List UV->Option (Ib c×List UV)
 | .bool,.bool b::r=>some (b,r)
 | .int k,.int k' n::r=>if k'=k then some (n,r)else none
 | .str,.str s::r=>some (s,r)
 | .slice c,.lit c' l::r=>if h:c'=c then some (h ▸ l,r)else none
 | .slice _,.Xa::r=>some ([],r)
 | .slice _,.Ef::r=>some ([],r)
 | .pair a b,cs=>(dec a cs).bind λ(x,r)=>(dec b r).bind λ(y,r')=>some ((x,y),r')
 |_,_=>none
def uK(c:CT)(cs:List UV):Option (Ib c):=
 match dec c cs with
 |some (x,[])=>some x
 |_=>none
def j8(c:CT):List (List UV)->Option (List (Ib c))
 |[]=>some []
 |r::rs=>(uK c r).bind λx=>(j8 c rs).bind λl=>some (x::l)
def vw(c:CT)(l:List (Ib c)):Nat->List UV:=λi=>enc c (l.getD i (GX c))
def dR(s:ByteArray):List Int:=s.data.toList.map λb=>(b.toNat:Int)
def aap(l:List Int):ByteArray:=⟨(l.map λn=>UInt8.ofNat n.toNat).toArray⟩
def Xk{α:Type}(r n:Nat)(l:List α):List α:=
 match r with
 |0=>l.take n
 |r+1=>(l.drop (r+1)).take n
def zq{α:Type}(r m:Nat)(g l:List α):List α:=l.take r++(g.take m++l.drop (r+m))
def valOf(g:Bool)(c:CT)(x:Ib c):UV:=
 match g,enc c x with
 |true,cs=> .agg cs
 |false,[v]=>v
 |_,_=> .Dc
def keyOf?(k:KT):UV->Option (Zd k):=
 match k with
 | .int k=>λ| .int k' n=>if k'=k then some n else none|_=>none
 | .str=>λ| .str s=>some s|_=>none
def jD{k:KT}{α:Type}(i:Zd k)(l:List (Zd k×α)):Bool:=l.any λp=>NK k i p.1
def GB{k:KT}{α:Type}(i:Zd k)(d:α):List (Zd k×α)->α
 |[]=>d
 |(j,x)::l=>cond (NK k i j) x (GB i d l)
def Mu{k:KT}{α:Type}(i:Zd k)(x:α):List (Zd k×α)->List (Zd k×α)
 |[]=>[(i,x)]
 |(j,y)::l=>cond (NK k i j) ((i,x)::l) ((j,y)::Mu i x l)
def eG{k:KT}{α:Type}(i:Zd k):List (Zd k×α)->List (Zd k×α)
 |[]=>[]
 |(j,y)::l=>cond (NK k i j) l ((j,y)::eG i l)
def pF(r k:Nat):Nat:=match r with|0=>k|_=>r+k
def closed:Nat->UV->Bool
 |0,_=>false
 |_+1,.ptr .. |_+1,.Lm .. |_+1,.sl .. |_+1,.all _|_+1,.Rt .. |_+1,.Dq .. |_+1,.mp _|_+1,.yl _|_+1,.Dc|_+1,.agg _|_+1,.Re _=>false
 |d+1,.fn _ cs=>cs.all (closed d)
 |_+1,_=>true
def yc:Nat->UV->Bool
 |0,_=>false
 |d+1,.agg cs=>cs.all (yc d)
 |d+1,.Re cs=>cs.all (yc d)
 |_+1,x=>closed 8 x
def get:List (Nat×US)->Nat->US
 |[],_=> .v .Dc
 |(j,x)::e,i=>if i=j then x else get e i
def UV.cells?:UV->Option (List UV)
 | .agg cs=>some cs
 | .Dc| .Re _=>none
 |x=>some [x]
def jk:Value->Option UV
 | .bool b=>some (.bool b)
 | .int k n=>some (.int k n)
 | .string s=>some (.str s)
 | .pointer none=>some .Hf
 | .slice none 0 0=>some .Xa
 | .map none=>some .ig
 | .nilFunc=>some .og
 | .nilIface=>some .zh
 |_=>none
def Jd:List Value->Option (List UV)
 |[]=>some []
 |v::vs=>(jk v).bind λx=>(Jd vs).bind λxs=>some (x::xs)
def ask{X:Type}(b:Bool)(x:Option X):Option X:=cond b x none
section
variable (A:V.Oi)(Na:Nat->Option (List UV))
def zero(t:TypeId):Option (List UV):=
 match(A.P.info? t).map (·.zero)with
 |some (some v)=>Jd v.cells.toList
 |_=>none
def zeroV(t:TypeId):Option UV:=
 match(A.P.info? t).map (·.zero)with
 |some (some (Value.agg cs))=>(Jd cs.toList).map UV.agg
 |some (some v)=>jk v
 |_=>none
def operand(e:List (Nat×US)):Operand->Option US
 | .tmp t=>some (get e t)
 | .const v=>(jk v).map .v
 | .global g=>(Na g).map λrow=> .v (.ee row)
 | .func f=>some (.v (.fn f []))
def val(e:List (Nat×US))(x:Operand):Option UV:=
 match operand Na e x with
 |some (.v .Dc)=>none
 |some (.v a)=>some a
 |_=>none
def Pk(e:List (Nat×US)):List Operand->Option (List UV)
 |[]=>some []
 |x::xs=>(val Na e x).bind λa=>(Pk e xs).bind λl=>some (a::l)
def gg(row:List UV)(c:Nat)(new:List UV):Option (List UV):=
 if c+new.length<=row.length then some (row.take c++(new++row.drop (c+new.length)))else none
def part(t:TypeId)(row:List UV)(c:Nat):Option UV:=
 (V.isAgg A t).bind λ
  |true=>(V.size A t).bind λn=>if c+n<=row.length then some (.agg ((row.drop c).take n))else none
  |false=>row[c]?
def Qa(H:UH)(b:Nat)(x:UB):UH:={ H with bl:=H.bl.set b x }
def push(H:UH)(x:UB):UH:={ H with bl:=H.bl++[x] }
def load(s:St)(t:TypeId):US->Option UV
 | .loc i c=>s.F[i]?.bind λrow=>part A t row c
 | .v (.ptr b c)=>match s.H.bl[b]? with|some (.Ee row)=>part A t row c|_=>none
 | .v (.Lm b r c)=>match s.H.bl[b]? with|some (.cells ct l)=>part A t (vw ct l r) c|some (.deep _ _)=>part A t [.Rt b r] c|_=>none
 | .v (.Dq b r j c)=>match s.H.bl[b]? with|some (.deep ct l)=>part A t (vw ct (l.getD r []) j) c|_=>none
 | .v (.ee row)=>part A t row 0
 |_=>none
def store(s:St)(t:TypeId)(p:US)(x:UV):Option St:=
 x.cells?.bind λcs=>(V.size A t).bind λn=>
  if cs.length=n then
   match p with
   | .loc i c=>s.F[i]?.bind λrow=>(gg row c cs).bind λVb=>fL Vb λVb=>some { s with F:=s.F.set i Vb }
   | .v (.ptr b c)=>
    match s.H.bl[b]? with
    |some (.Ee row)=>if s.H.wm<=b then(gg row c cs).bind λVb=>fL Vb λVb=>some { s with H:=Qa s.H b (.Ee Vb) }else none
    |_=>none
   | .v (.Lm b r c)=>
    match s.H.bl[b]? with
    |some (.cells ct l)=>if s.H.wm<=b then(gg (vw ct l r) c cs).bind λVb=>(uK ct Vb).bind λx=>some { s with H:=Qa s.H b (.cells ct (l.set r x)) }else none
    |_=>none
   | .v (.Dq b r j c)=>
    match s.H.bl[b]? with
    |some (.deep ct l)=>if s.H.wm<=b then(gg (vw ct (l.getD r []) j) c cs).bind λVb=>(uK ct Vb).bind λx=>some { s with H:=Qa s.H b (.deep ct (l.set r ((l.getD r []).set j x))) }else none
    |_=>none
   |_=>none
  else none
def rh(n:Nat):US->Option US
 | .loc i c=>some (.loc i (c+n))
 | .v (.ptr b c)=>some (.v (.ptr b (c+n)))
 | .v (.Lm b r c)=>some (.v (.Lm b r (c+n)))
 | .v (.Dq b r j c)=>some (.v (.Dq b r j (c+n)))
 | .v (.ee row)=>some (.v (.ee (row.drop n)))
 |_=>none
variable {X:Type}
def cases(i:Int)(K:Nat->Option X):Nat->Nat->Option X
 |0,_=>none
 |m+1,j=>cond (decide (i=(j:Int))) (K j) (cases i K m (j+1))
def indexAddr(H:UH)(t:TypeId)(x:US)(i:Int)(K:US->Option X):Option X:=
 match A.P.underlying t with
 |some (.array n e)=>(V.size A e).bind λsz=>cases i (λj=>(rh (j * sz) x).bind K) n 0
 |some (.slice e)=>
  match x with
  | .v (.sl b r n)=>
   match H.bl[b]? with
   |some (.cells c _)=>if V.size A e=some (width c)then ask (V.ua i n) (K (.v (.Lm b (pF r i.toNat) 0)))else none
   |some (.deep _ _)=>if V.size A e=some 1 then ask (V.ua i n) (K (.v (.Lm b (pF r i.toNat) 0)))else none
   |_=>none
  | .v (.all b)=>
   match H.bl[b]? with
   |some (.cells c l)=>if V.size A e=some (width c)then ask (V.ua i l.length) (K (.v (.Lm b i.toNat 0)))else none
   |some (.deep _ l)=>if V.size A e=some 1 then ask (V.ua i l.length) (K (.v (.Lm b i.toNat 0)))else none
   |_=>none
  | .v (.Rt b r)=>
   match H.bl[b]? with
   |some (.deep c l)=>if V.size A e=some (width c)then ask (V.ua i (l.getD r []).length) (K (.v (.Dq b r i.toNat 0)))else none
   |_=>none
  | .v (.lit c l)=>if V.size A e=some (width c)then ask (V.ua i l.length) (K (.v (.ee (vw c l i.toNat))))else none
  |_=>none
 |_=>none
def index(t:TypeId)(x:UV)(i:Int)(K:UV->Option X):Option X:=
 match A.P.underlying t,x with
 |some (.array n e),.agg cs=>(V.size A e).bind λsz=>cases i (λj=>(part A e cs (j * sz)).bind K) n 0
 |some .string,.str s=>ask (V.ua i s.size) (K (.int .u8 (s[i.toNat]!.toNat:Int)))
 |_,_=>none
def Lg(place:Nat->Option (Nat×Nat))(row:List UV):List (Nat×UV)->Option (List UV)
 |[]=>some row
 |(i,x)::rest=>
  (place i).bind λ(off,n)=>x.cells?.bind λcs=>
   if cs.length=n then(gg row off cs).bind λVb=>Lg place Vb rest else none
def parts(e:List (Nat×US)):List (Nat×Operand)->Option (List (Nat×UV))
 |[]=>some []
 |(i,x)::xs=>(val Na e x).bind λa=>(parts e xs).bind λl=>some ((i,a)::l)
def build(t:TypeId)(ps:List (Nat×UV)):Option UV:=
 (zero A t).bind λz=>
  match A.P.underlying t with
  |some (.struct fs)=>if fs.toList.all λf=>(V.size A f.type).isSome then(Lg (λi=>fs[i]?.bind λf=>(V.size A f.type).map λn=>(f.offset,n)) z ps).map .agg else none
  |some (.array _ e)=>(V.size A e).bind λn=>(Lg (λi=>some (i * n,n)) z ps).map .agg
  |_=>none
def l8:Nat->TypeId->Option CT
  |0,_=>none
  |d+1,t=>
   match A.P.underlying t with
   |some .bool=>some .bool
   |some (.int k)=>some (.int k)
   |some .string=>some .str
   |some (.slice e)=>(l8 d e).map .slice
   |some (.struct fs)=>eF (fs.toList.map λf=>l8 d f.type)
   |some (.array n e)=>eF (fb n (l8 d e))
   |_=>none
 where
  eF:List (Option CT)->Option CT
   |[]=>none
   |[c]=>c
   |c::cs=>c.bind λc=>(eF cs).map λc'=> .pair c c'
def elemOf(t:TypeId):Option ((c:CT)×Ib c):=
 (V.elem? A t).bind λe=>(zero A e).bind λz=>(l8 A 16 e).bind λc=>(uK c z).bind λx=>
  if 0<z.length/\V.size A e=some z.length/\width c=z.length then some ⟨c,x⟩else none
def If(rows:List (List UV)):List (Nat×UV)->Option (List (List UV))
 |[]=>some rows
 |(i,x)::rest=>x.cells?.bind λcs=>rows[i]?.bind λrow=>if cs.length=row.length then If (rows.set i cs) rest else none
def ni(c:CT):Nat->List (Nat×UV)->UH->Option (List (List (Ib c))×UH)
 |_,[],H=>some ([],H)
 |i,(j,x)::ps,H=>if j=i then
  match x with
  | .Xa| .Ef=>(ni c (i+1) ps H).bind λ(l,H)=>some ([]::l,H)
  | .all b=>
   match H.bl[b]? with
   |some (.cells c' l)=>if h:c'=c/\H.wm<=b then(ni c (i+1) ps (Qa H b .dead)).bind λ(l',H)=>some ((h.1 ▸ l)::l',H)else none
   |_=>none
  |_=>none
  else none
def isAll:UV->Bool
 | .all _=>true
 |_=>false
def YQ(H:UH)(t:TypeId)(len:Nat)(ps:List (Nat×UV)):Option (UV×UH):=
 match elemOf A t with
 |some ⟨.slice c,_⟩=>if ps.length=len/\ps.any (λp=>isAll p.2)=true then(ni c 0 ps H).bind λ(l,H)=>some (.all H.bl.length,push H (.deep c l))else none
 |_=>none
def buildSlice(H:UH)(t:TypeId)(len:Nat)(ps:List (Nat×UV)):Option (UV×UH):=
 (V.elem? A t).bind λe=>(zero A e).bind λz=>(elemOf A t).bind λ⟨c,_⟩=>
  if len * z.length<=16777216 then
   if len=0/\ps.length=0 then some (.Ef,H)else
    match YQ A H t len ps with
    |some r=>some r
    |none=>(If (fb len z) ps).bind λrows=>(j8 c rows).bind λl=>some (.all H.bl.length,push H (.cells c l))
  else none
def makeSlice(H:UH)(t:TypeId)(len cap:UV)(K:UV->UH->Option X):Option X:=
 match len,cap with
 | .int _ l,.int _ c=>
  (V.elem? A t).bind λe=>(elemOf A t).bind λ⟨ct,x⟩=>(V.bytes A e).bind λn=>
   ask (decide (0<=l)&&decide (l<=c)&&decide (n * c<=70368744177664)&&decide (c<9223372036854775808))
    (K (.all H.bl.length) (push H (.cells ct (fb l.toNat x))))
 |_,_=>none
def rowsOf(H:UH)(c:CT):UV->Option (List (Ib c))
 | .lit c' l=>if h:c'=c then some (h ▸ l)else none
 | .all b=>match H.bl[b]? with|some (.cells c' l)=>if h:c'=c then some (h ▸ l)else none|_=>none
 | .sl b r n=>match H.bl[b]? with|some (.cells c' l)=>if h:c'=c then some (Xk r n (h ▸ l))else none|_=>none
 | .Rt b r=>match H.bl[b]? with|some (.deep c' l)=>if h:c'=c then some (h ▸ l.getD r [])else none|_=>none
 | .str s=>if h:CT.int .u8=c then some (h ▸ (dR s:List (Ib (.int .u8))))else none
 |_=>none
def X7(H:UH):UV->Option (Nat×(c:CT)×List (Ib c)×List (List (Ib c)))
 | .all b=>match H.bl[b]? with|some (.deep c (a::l))=>if H.wm<=b then some (b,⟨c,a,l⟩)else none|_=>none
 |_=>none
def Z7(H:UH)(c:CT)(b:Nat):UV->Option (List (List (Ib c))×UH)
 | .Xa| .Ef=>some ([],Qa H b .dead)
 | .all b1=>match H.bl[b1]? with|some (.deep c' l)=>if h:c'=c/\b1≠b/\H.wm<=b1 then some (h.1 ▸ l,Qa (Qa H b1 .dead) b .dead)else none|_=>none
 |_=>none
def append(H:UH)(argTypes:Array TypeId)(x y:UV)(K:UV->UH->Option X):Option X:=
 argTypes[0]?.bind λt=>(V.elem? A t).bind λe=>(elemOf A t).bind λ⟨c,_⟩=>(V.bytes A e).bind λn=>
  (match argTypes[1]? with
   |some u=>(match A.P.underlying u with|some (.int _)=>none|some _=>some ()|none=>none)
   |none=>some ()).bind λ_=>
   match X7 H y with
   |some (b,⟨c',a,l⟩)=>if c=CT.slice c' then(Z7 H c' b x).bind λ(f,H0)=>ask (decide ((f.length+(a::l).length) * n<=70368744177664)&&decide (f.length+(a::l).length<9223372036854775808)) (K (.all H0.bl.length) (push H0 (.deep c' (f++a::l))))else none
   |none=>
   match y with
   | .Xa| .Ef=>match x with| .Xa| .Ef=>K x H|x=>match x with| .str _=>none|x=>(rowsOf H c x).bind λf=>ask (decide (f.length * n<=70368744177664)&&decide (f.length<9223372036854775808)) (K x H)
   |y=>
    (rowsOf H c y).bind λg=>
     match x with
     | .Xa| .Ef=>ask (decide (g.length * n<=70368744177664)&&decide (g.length<9223372036854775808)) (K (.all H.bl.length) (push H (.cells c g)))
     | .sl b r m=>
      (match g with|_::_=>some ()|[]=>match r with|0=>some ()|_=>none).bind λ_=>
      if H.wm<=b then
       (rowsOf H c (.sl b r m)).bind λf=>
        ask (decide ((m+g.length) * n<=70368744177664)&&decide (m+g.length<9223372036854775808)) (K (.all H.bl.length) (push (Qa H b .dead) (.cells c (f++g))))
      else none
     | .all b=>
      if H.wm<=b then
       (rowsOf H c (.all b)).bind λf=>
        ask (decide ((f.length+g.length) * n<=70368744177664)&&decide (f.length+g.length<9223372036854775808)) (K (.all H.bl.length) (push (Qa H b .dead) (.cells c (f++g))))
      else none
     |_=>none
def slice(H:UH)(t:TypeId)(x:UV)(lo hi:Option Int)(K:UV->Option X):Option X:=
 match A.P.underlying t,x with
 |some .string,.str s=>ask (decide (0<=lo.getD 0)&&decide (lo.getD 0<=hi.getD s.size)&&decide (hi.getD s.size<=s.size)) (K (.str (s.extract (lo.getD 0).toNat (hi.getD s.size).toNat)))
 |some (.slice e),.lit c l=>
  if V.size A e=some (width c)then
   match hi with
   |none=>ask (decide (0<=lo.getD 0)&&decide (lo.getD 0<=l.length)) (K (.lit c (l.drop (lo.getD 0).toNat)))
   |some h=>ask (decide (0<=lo.getD 0)&&decide (lo.getD 0<=h)&&decide (h<=l.length)) (K (.lit c ((l.take h.toNat).drop (lo.getD 0).toNat)))
  else none
 |some (.slice e),.sl b r n=>
  match H.bl[b]? with
  |some (.cells c _)=>if V.size A e=some (width c)then ask (decide (0<=lo.getD 0)&&decide (lo.getD 0<=hi.getD n)&&decide (hi.getD n<=n)) (K (.sl b (pF r (lo.getD 0).toNat) ((hi.getD n).toNat-(lo.getD 0).toNat)))else none
  |some (.deep _ _)=>if V.size A e=some 1 then ask (decide (0<=lo.getD 0)&&decide (lo.getD 0<=hi.getD n)&&decide (hi.getD n<=n)) (K (.sl b (pF r (lo.getD 0).toNat) ((hi.getD n).toNat-(lo.getD 0).toNat)))else none
  |_=>none
 |some (.slice e),.all b=>
  match H.bl[b]? with
  |some (.cells c l)=>if V.size A e=some (width c)then ask (decide (0<=lo.getD 0)&&decide (lo.getD 0<=hi.getD l.length)&&decide (hi.getD l.length<=l.length)) (K (.sl b (lo.getD 0).toNat ((hi.getD l.length).toNat-(lo.getD 0).toNat)))else none
  |some (.deep _ l)=>if V.size A e=some 1 then ask (decide (0<=lo.getD 0)&&decide (lo.getD 0<=hi.getD l.length)&&decide (hi.getD l.length<=l.length)) (K (.sl b (lo.getD 0).toNat ((hi.getD l.length).toNat-(lo.getD 0).toNat)))else none
  |_=>none
 |_,_=>none
def jj(H:UH)(t:TypeId)(x:UV):Option (UV×UH):=
 match A.P.underlying t with
 |some (.slice e)=>if(V.size A e).isSome then
   match x with
   | .Xa=>some (.Xa,H)
   | .Ef=>some (.Ef,H)
   | .lit c _=>some (.all H.bl.length,push H (.cells c []))
   | .sl b _ _=>match H.bl[b]? with|some (.cells c _)=>some (.all H.bl.length,push H (.cells c []))|_=>none
   | .all b=>match H.bl[b]? with|some (.cells c _)=>some (.all H.bl.length,push H (.cells c []))|_=>none
   |_=>none
  else none
 |_=>none
def qZ(x:UV):Bool:=match x with| .int _ n=>decide (n=0)|_=>false
def ir(op:BinOp)(k:IntKind)(x y:Int)(K:UV->Option X):Option X:=
 match op with
 | .add=>K (.int k (k.wrap (x+y)))
 | .sub=>K (.int k (k.wrap (x-y)))
 | .mul=>K (.int k (k.wrap (x * y)))
 | .quo=>cond (decide (y=0)) none (K (.int k (k.wrap (x.tdiv y))))
 | .rem=>cond (decide (y=0)) none (K (.int k (x.tmod y)))
 | .and| .or| .xor| .andNot=>(V.bits op k x y).bind λn=>K (.int k n)
 | .eql=>K (.bool (decide (x=y)))
 | .neq=>K (.bool (!decide (x=y)))
 | .lss=>K (.bool (decide (x<y)))
 | .leq=>K (.bool (decide (x<=y)))
 | .gtr=>K (.bool (decide (y<x)))
 | .geq=>K (.bool (decide (y<=x)))
 |_=>none
def eqFields(eq:TypeId->UV->UV->Option Bool)(xs ys:List UV):List Field->Option Bool
 |[]=>some true
 |fd::fs=>
  if fd.name= "_" then eqFields eq xs ys fs
  else(part A fd.type xs fd.offset).bind λx=>(part A fd.type ys fd.offset).bind λy=>(eq fd.type x y).bind λb=>(eqFields eq xs ys fs).map λc=>b&&c
def qh(eq:UV->UV->Option Bool)(e:TypeId)(sz:Nat)(xs ys:List UV):Nat->Nat->Option Bool
 |0,_=>some true
 |n+1,i=>(part A e xs (i * sz)).bind λx=>(part A e ys (i * sz)).bind λy=>(eq x y).bind λb=>(qh eq e sz xs ys n (i+1)).map λc=>b&&c
def ay:Nat->TypeId->UV->UV->Option Bool
 |0,_,_,_=>none
 |d+1,t,x,y=>
  match A.P.underlying t,x,y with
  |some .bool,.bool a,.bool b=>some (a==b)
  |some (.int _),.int k a,.int k' b=>if k=k' then some (decide (a=b))else none
  |some .string,.str a,.str b=>some (a.toList==b.toList)
  |some (.struct fs),.agg xs,.agg ys=>if A.P.stoodInHeld t then none else eqFields A (ay d) xs ys fs.toList
  |some (.array n e),.agg xs,.agg ys=>(V.size A e).bind λsz=>qh A (ay d e) e sz xs ys n 0
  |_,_,_=>none
def gq(t:TypeId)(x y:UV):Option Bool:=
 match A.P.underlying t,x,y with
 |some .bool,.bool a,.bool b=>some (a==b)
 |some (.struct _),.agg xs,.agg ys=>if A.P.eqGuardType A.P.depth t then none else ay A 1000 t (.agg xs) (.agg ys)
 |some (.array _ _),.agg xs,.agg ys=>if A.P.eqGuardType A.P.depth t then none else ay A 1000 t (.agg xs) (.agg ys)
 |some (.slice _),.Xa,.Xa=>some true
 |some (.slice _),.Xa,.Ef|some (.slice _),.Ef,.Xa=>some false
 |some (.pointer _),.Hf,.Hf=>some true
 |some (.pointer _),.Hf,.ptr .. |some (.pointer _),.ptr ..,.Hf|some (.pointer _),.Hf,.Lm .. |some (.pointer _),.Lm ..,.Hf|some (.pointer _),.Hf,.ee _|some (.pointer _),.ee _,.Hf=>some false
 |some (.map _ _),.ig,.ig=>some true
 |some (.map _ _),.ig,.mp _|some (.map _ _),.mp _,.ig=>some false
 |some (.func _ _ _),.og,.og=>some true
 |some (.func _ _ _),.og,.fn .. |some (.func _ _ _),.fn ..,.og=>some false
 |_,_,_=>none
def ku(op:BinOp)(x y:ByteArray)(K:UV->Option X):Option X:=
 match op with
 | .add=>ask (decide (x.size+y.size<=9223372036854775807)) (K (.str (x++y)))
 | .eql=>K (.bool (x.toList==y.toList))
 | .neq=>K (.bool (!(x.toList==y.toList)))
 | .lss=>K (.bool (Op.bytesLess x.toList y.toList))
 | .leq=>K (.bool (Op.bytesLess x.toList y.toList||x.toList==y.toList))
 | .gtr=>K (.bool !(Op.bytesLess x.toList y.toList||x.toList==y.toList))
 | .geq=>K (.bool !(Op.bytesLess x.toList y.toList))
 |_=>none
def binop(op:BinOp)(t:TypeId)(x y:UV)(K:UV->Option X):Option X:=
 match op,x,y with
 | .shl,.int k a,.int _ b=>ask (decide (0<=b)) (K (.int k (k.wrap (a * 2^min b.toNat k.bits))))
 | .shr,.int k a,.int _ b=>ask (decide (0<=b)) (K (.int k (a.fdiv (2^min b.toNat k.bits))))
 |op,.int k a,.int k' b=>if k=k' then ir op k a b K else none
 |op,.str a,.str b=>ku op a b K
 | .eql,x,y=>(gq A t x y).bind λb=>K (.bool b)
 | .neq,x,y=>(gq A t x y).bind λb=>K (.bool !b)
 |_,_,_=>none
def unop(op:UnOp)(x:UV):Option UV:=
 match op,x with
 | .neg,.int k n=>some (.int k (k.wrap (0-n)))
 | .xor,.int k n=>(V.bits .xor k (if k.signed then -1 else k.max) n).map (.int k)
 | .not,.bool b=>some (.bool !b)
 |_,_=>none
def convert(H:UH)(src dst:TypeId)(x:UV)(K:UV->UH->Option X):Option X:=
 match A.P.underlying src,A.P.underlying dst,x with
 |some _,some (.int k),.int _ n=>K (.int k (k.wrap n)) H
 |some _,some .string,.str s=>K (.str s) H
 |some .string,some (.slice e),.str s=>
  match A.P.underlying e with
  |some (.int .u8)=>ask (decide (s.size<=70368744177664)) (K (.all H.bl.length) (push H (.cells (.int .u8) (dR s))))
  |_=>none
 |some (.slice e),some .string,x=>
  match A.P.underlying e with
  |some (.int .u8)=>(rowsOf H (.int .u8) x).bind λl=>K (.str (aap l)) H
  |_=>none
 |_,_,_=>none
variable {k:KT}
def nD(i:Zd k)(z:UV)(K:UV->Bool->Option X):List (Zd k×UV)->Option X
 |[]=>K z false
 |(j,v)::es=>cond (NK k i j) (K v true) (nD i z K es)
def cO(i:Zd k)(v:UV)(K:List (Zd k×UV)->Option X):List (Zd k×UV)->Option X
 |[]=>K [(i,v)]
 |(j,w)::es=>cond (NK k i j) (K ((i,v)::es)) (cO i v (λie=>K ((j,w)::ie)) es)
def UQ(i:Zd k)(K:List (Zd k×UV)->Option X):List (Zd k×UV)->Option X
 |[]=>K []
 |(j,w)::es=>cond (NK k i j) (K es) (UQ i (λie=>K ((j,w)::ie)) es)
def sB(t:TypeId):Option KT:=
 match A.P.underlying t with
 |some (.int k)=>some (.int k)
 |some .string=>some .str
 |_=>none
def lookup(H:UH)(t:TypeId)(m i:UV)(ok:Bool)(K:UV->Option X):Option X:=
 match A.P.underlying t with
 |some (.map kt et)=>
  match m with
  | .mp b=>
   match H.bl[b]? with
   |some (.Jg k es)=>if sB A kt=some k then(keyOf? k i).bind λi=>(zeroV A et).bind λz=>nD i z (λv b=>K (if ok then .Re [v,.bool b]else v)) es else none
   |some (.Pe k g c l)=>if sB A kt=some k then(keyOf? k i).bind λi=>(zeroV A et).bind λz=>cond (jD i l) (K (if ok then .Re [valOf g c (GB i (GX c) l),.bool true]else valOf g c (GB i (GX c) l))) (K (if ok then .Re [z,.bool false]else z))else none
   |_=>none
  |_=>none
 |_=>none
def Gab(g:Bool)(c:CT)(x:UV):Option (Ib c):=
 match g,x with
 |true,.agg cs=>uK c cs
 |false,x=>if width c=1 then uK c [x]else none
 |_,_=>none
def mapUpdate(H:UH)(t:TypeId)(m i x:UV)(K:UH->Option X):Option X:=
 match A.P.underlying t,m with
 |some (.map kt _),.mp b=>
  if H.wm<=b then
   match H.bl[b]? with
   |some (.Jg k es)=>if sB A kt=some k/\yc 8 x then(keyOf? k i).bind λi=>cO i x (λie=>K (Qa H b (.Jg k ie))) es else none
   |some (.Pe k g c l)=>if sB A kt=some k then(keyOf? k i).bind λi=>(Gab g c x).bind λx=>K (Qa H b (.Pe k g c (Mu i x l)))else none
   |_=>none
  else none
 |_,_=>none
def lg(H:UH)(t:TypeId)(m i:UV)(K:UH->Option X):Option X:=
 match A.P.underlying t,m with
 |some (.map kt _),.mp b=>
  if H.wm<=b then
   match H.bl[b]? with
   |some (.Jg k es)=>if sB A kt=some k then(keyOf? k i).bind λi=>UQ i (λie=>K (Qa H b (.Jg k ie))) es else none
   |some (.Pe k g c l)=>if sB A kt=some k then(keyOf? k i).bind λi=>K (Qa H b (.Pe k g c (eG i l)))else none
   |_=>none
  else none
 |_,_=>none
def tI(k:KT)(et:TypeId):UB:=
 match V.isAgg A et,l8 A 16 et with
 |some g,some c=>if g||decide (width c=1)then .Pe k g c []else .Jg k []
 |_,_=> .Jg k []
def toInt:UV->Option Int
 | .int _ n=>some n
 |_=>none
def yh(e:List (Nat×US)):Option Operand->Option (Option Int)
 |none=>some none
 |some x=>(val Na e x).bind λa=>(toInt a).map some
def kZ:UV->UV->Option UV
 | .int k x,.int _ y=>some (.int k (if y>x then y else x))
 |_,_=>none
def eZ:UV->UV->Option UV
 | .int k x,.int _ y=>some (.int k (if y<x then y else x))
 |_,_=>none
def zm(f:UV->UV->Option UV)(x:UV):List UV->Option UV
 |[]=>some x
 |y::ys=>(f x y).bind λz=>zm f z ys
def YY:UV->Bool
 | .str _=>false
 |_=>true
def builtin(H:UH)(b:Builtin)(argTypes:Array TypeId)(args:List UV)(K:UV->UH->Option X):Option X:=
 match b,args with
 | .append,[x,y]=>append A H argTypes x y K
 | .len,[x]=>
  argTypes[0]?.bind λt=>
   match A.P.underlying t,x with
   |some .string,.str s=>K (.int .i64 s.size) H
   |some (.slice _),.Xa|some (.slice _),.Ef=>K (.int .i64 0) H
   |some (.slice _),.lit _ l=>K (.int .i64 l.length) H
   |some (.slice _),.all b=>match H.bl[b]? with|some (.cells _ l)=>K (.int .i64 l.length) H|some (.deep _ l)=>K (.int .i64 l.length) H|_=>none
   |some (.slice _),.Rt b r=>match H.bl[b]? with|some (.deep _ l)=>K (.int .i64 (l.getD r []).length) H|_=>none
   |some (.slice _),.sl _ _ n=>K (.int .i64 n) H
   |some (.map _ _),.mp b=>match H.bl[b]? with|some (.Jg _ es)=>K (.int .i64 es.length) H|some (.Pe _ _ _ l)=>K (.int .i64 l.length) H|_=>none
   |some (.array n _),_=>K (.int .i64 n) H
   |_,_=>none
 | .max,x::xs=>(zm kZ x xs).bind λv=>K v H
 | .min,x::xs=>(zm eZ x xs).bind λv=>K v H
 | .delete,[m,k]=>argTypes[0]?.bind λt=>lg A H t m k λH'=>K (.Re []) H'
 | .copy,[x,y]=>
  argTypes[0]?.bind λt=>(V.elem? A t).bind λe=>(V.size A e).bind λz=>
   if YY y then
    match x with
    | .sl b r n=>
     match H.bl[b]? with
     |some (.cells c l)=>if H.wm<=b/\width c=z then(rowsOf H c y).bind λg=>K (.int .i64 (min g.length n:Nat)) (Qa H b (.cells c (zq r (min g.length n) g l)))else none
     |_=>none
    | .all b=>
     match H.bl[b]? with
     |some (.cells c l)=>if H.wm<=b/\width c=z then(rowsOf H c y).bind λg=>K (.int .i64 (min g.length l.length:Nat)) (Qa H b (.cells c (zq 0 (min g.length l.length) g l)))else none
     |_=>none
    |_=>none
   else none
 |_,_=>none
def pZ(cs:List UV):Bool:=match cs with|[.Hf,.Xa]=>true|_=>false
variable [TB:Uv]
def box(s:St)(t:TypeId)(Ch:Bool)(cs:List UV):US×St:=
 if Ch then(.loc s.F.length 0,{ s with F:=s.F++[cs] })
 else if t=TB.bT/\pZ cs=true then(.v (.ptr (s.H.bl.length+1) 0),{ s with H:=push (push s.H (.Fq .empty)) (.Un (.all s.H.bl.length)) })
 else(.v (.ptr s.H.bl.length 0),{ s with H:=push s.H (.Ee cs) })
def boxed(s:St)(t:TypeId)(Ch:Bool)(cs:List UV)(K:US->St->Option X):Option X:=if Ch||decide (0<cs.length)then K (box s t Ch cs).1 (box s t Ch cs).2 else none
def aP(v:UV)(H:UH):Option (UV×UH):=
 match v with
 | .all b=>if H.wm<=b then(match H.bl[b]? with|some (.cells c l)=>some (.lit c l,Qa H b .dead)|some (.deep c l)=>some (.lit (.slice c) l,Qa H b .dead)|_=>none)else none
 |_=>none
structure Env where
 join:Nat->Bool
 call:(X:Type)->UV->List UV->UH->(UV->UH->Option X)->Option X
 loop:(X:Type)->Nat->St->(V.Ex->St->Option X)->Option X
def op(env:Env)(Ca:List Nat)(s:St)(o:Oper)(K:US->St->Option X):Option X:=
 match o.op with
 | .move x| .assign x=>(operand Na s.e x).bind λv=>K v s
 | .pick c a b=>(val Na s.e c).bind λ
  | .bool p=>cond p ((operand Na s.e a).bind λv=>K v s) ((operand Na s.e b).bind λv=>K v s)
  |_=>none
 | .alloc t=>(zero A t).bind λz=>boxed s t ((o.dst.map (Ca.contains ·)).getD false) z K
 | .box t x=>(val Na s.e x).bind λa=>a.cells?.bind λcs=>boxed s t ((o.dst.map (Ca.contains ·)).getD false) cs K
 | .build t ps=>(parts Na s.e ps.toList).bind λl=>(build A t l).bind λv=>K (.v v) s
 | .buildSlice t n ps=>(parts Na s.e ps.toList).bind λl=>(buildSlice A s.H t n l).bind λ(v,H)=>(cond (V.RR Ca o) (aP v H) (some (v,H))).bind λ(v,H)=>K (.v v) { s with H:=H }
 | .load t x=>(operand Na s.e x).bind λp=>(load A s t p).bind λv=>K (.v v) s
 | .store t x y=>(operand Na s.e x).bind λp=>(val Na s.e y).bind λa=>(store A s t p a).bind λs'=>K (.v .Dc) s'
 | .nilCheck x=>(operand Na s.e x).bind λ
  | .loc i c=>K (.loc i c) s
  | .v (.ptr b c)=>K (.v (.ptr b c)) s
  | .v (.Lm b r c)=>K (.v (.Lm b r c)) s
  | .v (.Dq b r j c)=>K (.v (.Dq b r j c)) s
  | .v (.ee row)=>K (.v (.ee row)) s
  | .v (.fn f cs)=>K (.v (.fn f cs)) s
  | .v (.yl b)=>K (.v (.yl b)) s
  |_=>none
 | .binOp b t x y _=>(val Na s.e x).bind λu=>(val Na s.e y).bind λv=>binop A b t u v λr=>K (.v r) s
 | .unOp u _ x=>(val Na s.e x).bind λv=>(unop u v).bind λr=>K (.v r) s
 | .convert src dst x=>(val Na s.e x).bind λv=>convert A s.H src dst v λr H=>K (.v r) { s with H:=H }
 | .makeFunc (.func f) first Lh=>if first.size=0 then(Pk Na s.e Lh.toList).bind λl=>K (.v (.fn f l)) s else none
 | .makeMap t r=>
  (match r with|none=>some ()|some x=>(match A.P.underlying t with|some (.map _ _)=>(val Na s.e x).bind λv=>(toInt v).map λ_=>()|_=>none)).bind λ_=>
   match A.P.underlying t with
   |some (.map kt et)=>(sB A kt).bind λk=>K (.v (.mp s.H.bl.length)) { s with H:=push s.H (tI A k et) }
   |_=>none
 | .makeSlice t l c=>(val Na s.e l).bind λu=>(val Na s.e c).bind λv=>makeSlice A s.H t u v λr H=>K (.v r) { s with H:=H }
 | .slice t x lo hi none=>(val Na s.e x).bind λv=>(yh Na s.e lo).bind λl=>(yh Na s.e hi).bind λh=>slice A s.H t v l h λr=>K (.v r) s
 | .slice t x none (some h) (some m)=>(val Na s.e x).bind λv=>(val Na s.e h).bind λa=>(val Na s.e m).bind λb=>if qZ a&&qZ b then(jj A s.H t v).bind λ(r,H)=>K (.v r) { s with H:=H }else none
 | .fieldAddr t x f=>(operand Na s.e x).bind λp=>(V.field? A t f).bind λfd=>(V.size A fd.type).bind λn=>if n=0 then none else(rh fd.offset p).bind λv=>K v s
 | .field t x f=>(val Na s.e x).bind λ
  | .agg cs=>(V.field? A t f).bind λfd=>(part A fd.type cs fd.offset).bind λv=>K (.v v) s
  |_=>none
 | .indexAddr t x i=>(operand Na s.e x).bind λp=>(val Na s.e i).bind λn=>(toInt n).bind λn=>indexAddr A s.H t p n λv=>K v s
 | .index t x i=>(val Na s.e x).bind λv=>(val Na s.e i).bind λn=>(toInt n).bind λn=>index A t v n λr=>K (.v r) s
 | .lookup t x i ok=>(val Na s.e x).bind λm=>(val Na s.e i).bind λk=>lookup A s.H t m k ok λr=>K (.v r) s
 | .mapUpdate t m k x| .insert t m k x=>(val Na s.e m).bind λm=>(val Na s.e k).bind λk=>(val Na s.e x).bind λv=>mapUpdate A s.H t m k v λH=>K (.v .Dc) { s with H:=H }
 | .extract x i=>(val Na s.e x).bind λ
  | .Re vs=>vs[i]?.bind λv=>K (.v v) s
  |_=>none
 | .call c=>
  (Pk Na s.e c.args.toList).bind λargs=>
   match c.callee with
   | .value f=>(val Na s.e f).bind λg=>env.call X g args s.H λr H=>K (.v r) { s with H:=H }
   | .builtin b=>builtin A s.H b c.argTypes args λr H=>K (.v r) { s with H:=H }
   |_=>none
 |_=>none
def put(s:St)(n:Nat)(dst:Option Nat)(v:US):Option St:=
 match dst with
 |none=>some s
 |some d=>if d<n then some { s with e:=(d,v)::s.e }else none
def Vf(w:Bool):Option US->V.Yf
 |some (.loc i _)=> .box i w
 |some (.v (.ee _))=>if w then .heap w else .no
 |_=> .heap w
def Hs:Option US->V.Yf
 |some (.v (.sl _ _ _))|some (.v (.all _))|some (.v (.Rt _ _))=> .heap false
 |_=> .no
def Xh:Option (List UV)->V.Yf
 |some [.mp _]=> .heap false
 |some _=> .no
 |none=> .heap false
def Ud(Ca:List Nat)(s:St)(o:Oper)(quiet:Bool):V.Yf:=
 match o.op with
 | .load _ x=>Vf false (operand Na s.e x)
 | .indexAddr _ x _=>Hs (operand Na s.e x)
 | .store _ x _=>Vf true (operand Na s.e x)
 | .alloc _| .box _ _=>if V.Ch Ca o then .no else .heap false
 | .mapUpdate .. | .insert .. => .heap true
 | .call { callee:= .builtin .copy,.. }| .call { callee:= .builtin .delete,.. }=> .heap true
 | .call { callee:= .builtin .max,.. }| .call { callee:= .builtin .min,.. }=> .no
 | .call { callee:= .builtin .len,args,.. }=>Xh (Pk Na s.e args.toList)
 | .call _=> .heap (!quiet)
 | .move _| .assign _| .pick .. | .build .. | .nilCheck _| .binOp .. | .unOp .. | .makeFunc .. | .fieldAddr .. | .field .. | .index .. | .extract .. => .no
 |_=> .heap false
def guard(os:Array Oper)(s:St)(o:Oper)(K:Bool->St->Option X):Option X:=
 match o.guard with
 |none=>K true s
 |some (j,want)=>
  match(os[j]?).bind (·.dst)with
  |some d=>match get s.e d with
   | .v (.bool b)=>cond b (K want { s with e:=(d,.v (.bool true))::s.e }) (K (!want) { s with e:=(d,.v (.bool false))::s.e })
   | .v (.Re [])=>K false s
   |_=>none
  |none=>none
def ops(env:Env)(Ca:List Nat)(n:Nat)(all:Array Oper):List Oper->St->(St->Option X)->Option X
 |[],s,K=>K s
 |o::rest,s,K=>guard all s o λ
  |true,s=>op A Na env Ca s o λv s=>fU v λv=>(put s n o.dst v).bind λs=>fSt s λs=>ops env Ca n all rest s K
  |false,s=>(put s n o.dst (.v (.Re []))).bind λs=>ops env Ca n all rest s K
def LR(env:Env)(Ca:List Nat)(t:V.Yf)(s:St)(o:Oper)(K:US->St->Option X):Option X:=
 match t with
 | .heap true=>op A Na env Ca s o K
 |_=>op A Na env Ca { s with H:={ s.H with wm:=s.H.bl.length } } o λv s'=>K v { s' with H:={ s'.H with wm:=s.H.wm } }
inductive Rec where
 |load (p:UV) (t:TypeId) (v:UV)
 |look (b:Nat) (k:KT) (es:List (Zd k×UV))
def Xf(s:St)(o:Oper):Bool:=
 V.Bl A o&&match o.op with
  | .load _ x=>(match operand Na s.e x with|some (.v (.ptr ..))|some (.v (.Lm ..))|some (.v (.Dq ..))=>true|_=>false)
  |_=>true
def LB(m:Nat):US->Bool
 | .v (.mp b)=>decide (b<m)
 | .v (.fn _ [])| .v .ig| .v .og=>true
 |_=>false
def FY:UV->UV->Bool
 | .mp b,.mp b'=>b==b'
 | .fn f [],.fn f' []=>f==f'
 | .ig,.ig=>true
 | .og,.og=>true
 |_,_=>false
def HY:UV->UV->Bool
 | .fn f [],.fn f' []=>f==f'
 | .og,.og=>true
 |_,_=>false
def sameKey:(k k':KT)->Zd k->Zd k'->Bool
 | .int a,.int b=>λ(i j:Int)=>decide (a=b)&&decide (i=j)
 |_,_=>λ_ _=>false
def Nu(k k':KT):List (Zd k×UV)->List (Zd k'×UV)->Bool
 |[],[]=>true
 |(i,v)::es,(j,w)::ie=>sameKey k k' i j&&HY v w&&Nu k k' es ie
 |_,_=>false
def ER(s:St)(o:Oper)(v:US):Option Rec:=
 match o.op with
 | .load t x=>
  match operand Na s.e x,v with
  |some (.v p),.v a=>some (.load p t a)
  |_,_=>none
 | .lookup _ x _ _=>
  match val Na s.e x with
  |some (.mp b)=>(match s.H.bl[b]? with|some (.Jg k es)=>if Nu k k es es then some (.look b k es)else none|_=>none)
  |_=>none
 |_=>none
def iL(s:St):Rec->Bool
 | .load p t a=>(match load A s t (.v p)with|some a'=>FY a a'|none=>false)
 | .look b k es=>(match s.H.bl[b]? with|some (.Jg k' ie)=>Nu k k' es ie|_=>false)
def Dl(env:Env)(Ca:List Nat)(n:Nat)(all:Array Oper)(b:List Nat):List Oper->Nat->St->List V.Yf->List Rec->(St->List V.Yf->Option X)->Option X
 |[],_,s,l,_,K=>K s l
 |o::rest,i,s,l,rs,K=>guard all s o λ
  |true,s=>
   if Xf A Na s o then
    op A Na env Ca s o λv _=>fU v λv=>
     if LB s.H.bl.length v&&V.wV b i l then
      (ER Na s o v).bind λr=>(put s n o.dst v).bind λDN=>fSt DN λDN=>Dl env Ca n all b rest (i+1) DN (l++[.no]) (rs++[r]) K
     else none
   else
    LR A Na env Ca (Ud Na Ca s o (V.quietAt A Ca all.toList b i o)) s o λv s'=>fU v λv=>(put s' n o.dst v).bind λDN=>fSt DN λDN=>
     if rs.all (iL A DN)then Dl env Ca n all b rest (i+1) DN (l++[Ud Na Ca s o (V.quietAt A Ca all.toList b i o)]) rs K else none
  |false,s=>(put s n o.dst (.v (.Re []))).bind λs=>Dl env Ca n all b rest (i+1) s (l++[.no]) rs K
def region(env:Env)(Ca:List Nat)(n:Nat)(os:Array Oper)(draw:Bool)(s:St)(K:St->Option X):Option X:=
 if draw then
  if V.eI os (V.Tl os.toList [])then
   Dl A Na env Ca n os (V.Tl os.toList []) os.toList 0 s [] [] λs l=>if V.cw (V.Tl os.toList []) l then K s else none
  else none
 else ops A Na env Ca n os os.toList s K
def ids:Nat->UV->List Nat
 |0,_=>[]
 |_+1,.ptr b _|_+1,.Lm b _ _|_+1,.sl b _ _|_+1,.all b|_+1,.Rt b _|_+1,.Dq b _ _ _|_+1,.mp b|_+1,.yl b=>[b]
 |d+1,.fn _ cs|d+1,.agg cs|d+1,.Re cs=>cs.flatMap (ids d)
 |_+1,_=>[]
def Gaq:UB->List Nat
 | .Ee row=>row.flatMap (ids 8)
 | .loop _ env _ _=>env.flatMap λp=>ids 8 p.2
 | .Un q=>ids 8 q
 |_=>[]
def eam:US->List Nat
 | .v x=>ids 8 x
 | .loc .. =>[]
def reach(H:UH):Nat->List Nat->List Nat->List Nat
 |0,_,seen=>seen
 |_+1,[],seen=>seen
 |d+1,b::w,seen=>if seen.contains b then reach H d w seen else reach H d (Gaq (H.bl.getD b .dead)++w) (seen++[b])
def Me:UB->Bool
 | .dead=>false
 |_=>true
def pos(b:Nat):List Nat->Nat->Option Nat
 |[],_=>none
 |x::l,i=>if x=b then some i else pos b l (i+1)
def Kk(φ:Nat->Option Nat):Nat->UV->UV
 |0,_=> .Dc
 |_+1,.ptr b c=>match φ b with|some b'=> .ptr b' c|none=> .Dc
 |_+1,.Lm b r c=>match φ b with|some b'=> .Lm b' r c|none=> .Dc
 |_+1,.sl b r n=>match φ b with|some b'=> .sl b' r n|none=> .Dc
 |_+1,.all b=>match φ b with|some b'=> .all b'|none=> .Dc
 |_+1,.Rt b r=>match φ b with|some b'=> .Rt b' r|none=> .Dc
 |_+1,.Dq b r j c=>match φ b with|some b'=> .Dq b' r j c|none=> .Dc
 |_+1,.mp b=>match φ b with|some b'=> .mp b'|none=> .Dc
 |_+1,.yl b=>match φ b with|some b'=> .yl b'|none=> .Dc
 |d+1,.fn f cs=> .fn f (cs.map (Kk φ d))
 |d+1,.agg cs=> .agg (cs.map (Kk φ d))
 |d+1,.Re cs=> .Re (cs.map (Kk φ d))
 |_+1,x=>x
def Pu(φ:Nat->Option Nat):UB->UB
 | .Ee row=> .Ee (row.map (Kk φ 8))
 | .loop id env st pe=> .loop id (env.map λp=>(p.1,Kk φ 8 p.2)) st pe
 | .Un q=> .Un (Kk φ 8 q)
 |x=>x
def En:List (Nat×US)->List Nat->List Nat
 |[],l=>l
 |(_,.loc i _)::e,l=>En e (if l.contains i then l else l++[i])
 |_::e,l=>En e l
def qV(φ ψ:Nat->Option Nat):US->US
 | .v x=> .v (Kk φ 8 x)
 | .loc i c=>match ψ i with|some i'=> .loc i' c|none=> .v .Dc
def yg(keep:List Nat)(s:St):St:=
 let e:=keep.map λi=>(i,get s.e i)
 let fs:=En e []
 let rows:=fs.map λi=>s.F.getD i []
 let bs:=mb s.base++(reach s.H 64 (mb s.base++(e.flatMap λp=>eam p.2)++rows.flatMap λrow=>row.flatMap (ids 8)) []).filter (λb=>decide (s.base<=b))
 let φ:=λb=>pos b bs 0
 let ψ:=λi=>pos i fs 0
 { e:=e.map λp=>(p.1,qV φ ψ p.2),F:=rows.map λrow=>row.map (Kk φ 8),H:=⟨bs.map λb=>Pu φ (s.H.bl.getD b .dead),s.H.wm⟩,base:=s.base }
inductive Sh where
 |any
 |Dc
 |lit (c:CT)
 |own (c:CT)
 |cut (c:CT)
 |deep (c:CT)
 |mv (c:CT)
 |map (k:KT) (g:Bool) (c:CT)
 |agg (l:List Sh)
 |Re (l:List Sh)
 |kill (l:List Nat) (sh:Sh)
 deriving Inhabited
def Sh.SC:Sh->List Nat
 | .kill l _=>l
 |_=>[]
def Sh.inner:Sh->Sh
 | .kill _ sh=>sh
 |sh=>sh
def Hw:List Nat->UH->UH
 |[],H=>H
 |b::l,H=>Hw l (Qa H b .dead)
def b8{k:KT}(g:Bool)(c:CT):List (Zd k×UV)->Option (List (Zd k×Ib c))
 |[]=>some []
 |(i,x)::es=>(Gab g c x).bind λy=>(b8 g c es).bind λl=>some ((i,y)::l)
def Mac(d:Nat)(H:UH)(c:CT)(b:Nat):Option (List (Ib c)):=
 match H.bl[b]? with
 |some (.cells c' l)=>if h:c'=c then some (h ▸ l)else none
 |some (.deep c' l)=>if h:CT.slice c'=c/\1<d then some (h.1 ▸ l)else none
 |_=>none
def Pg:Nat->Bool->Sh->UV->UH->Option (UV×UH)
  |0,_,_,_,_=>none
  |_+1,_,.any,x,H=>some (x,H)
  |_+1,_,.Dc,_,H=>some (.Dc,H)
  |_+1,_,.lit c,.Xa,H|_+1,_,.lit c,.Ef,H=>some (.lit c [],H)
  |d+1,fz,.lit c,.sl b r n,H=>if fz&&decide (0<d)&&decide (H.wm<=b)then(rowsOf H c (.sl b r n)).bind λl=>some (.lit c l,Qa H b .dead)else none
  |d+1,fz,.lit c,.all b,H=>if fz&&decide (0<d)&&decide (H.wm<=b)then(Mac d H c b).bind λl=>some (.lit c l,Qa H b .dead)else none
  |_+1,_,.lit _,.lit c l,H=>some (.lit c l,H)
  |_+1,_,.own c,.Xa,H|_+1,_,.own c,.Ef,H=>some (.all H.bl.length,push H (.cells c []))
  |_+1,_,.own c,.sl b 0 n,H=>
   match H.bl[b]? with
   |some (.cells c' l)=>if c'=c/\H.wm<=b then some (.all H.bl.length,push (Qa H b .dead) (.cells c' (l.take n)))else none
   |_=>none
  |_+1,_,.cut c,.Xa,H|_+1,_,.cut c,.Ef,H=>some (.sl H.bl.length 0 0,push H (.cells c []))
  |_+1,_,.cut _,.sl b r n,H=>some (.sl b r n,H)
  |_+1,_,.cut _,.all b,H=>match H.bl[b]? with|some (.cells _ l)=>some (.sl b 0 l.length,H)|_=>none
  |_+1,_,.own _,.all b,H=>some (.all b,H)
  |_+1,_,.deep c,.Xa,H|_+1,_,.deep c,.Ef,H=>some (.all H.bl.length,push H (.deep c []))
  |_+1,_,.deep _,.all b,H=>some (.all b,H)
  |_+1,_,.mv c,.all b,H=>
   match H.bl[b]? with
   |some (.cells c' l)=>if c'=c/\H.wm<=b then some (.all H.bl.length,push (Qa H b .dead) (.cells c' l))else none
   |_=>none
  |_+1,_,.map k g c,.mp b,H=>
   match H.bl[b]? with
   |some (.Jg k' es)=>if h:k'=k then(b8 g c (h ▸ es)).bind λl=>some (.mp b,Qa H b (.Pe k g c l))else none
   |some (.Pe ..)=>some (.mp b,H)
   |_=>none
  |d+1,fz,.agg Rv,.agg cs,H=>(Ui (Pg d fz) Rv cs H).map λ(l,H)=>(.agg l,H)
  |d+1,fz,.Re Rv,.Re cs,H=>(Ui (Pg d fz) Rv cs H).map λ(l,H)=>(.Re l,H)
  |_+1,_,_,_,_=>none
 where
  Ui (m:Sh->UV->UH->Option (UV×UH)):List Sh->List UV->UH->Option (List UV×UH)
   |[],[],H=>some ([],H)
   |s::ss,x::xs,H=>(m s x H).bind λ(x',H)=>(Ui m ss xs H).bind λ(Hq,H)=>some (x'::Hq,H)
   |_,_,_=>none
def Zq(Rv:List (Nat×Sh)):List (Nat×US)->UH->Option (List (Nat×US)×UH)
 |[],H=>some ([],H)
 |(i,.v x)::e,H=>(match Rv.lookup i with|some sh=>Pg 8 false sh x H|none=>some (x,H)).bind λ(x',H)=>(Zq Rv e H).bind λ(e',H)=>some ((i,.v x')::e',H)
 |p::e,H=>(Zq Rv e H).bind λ(e',H)=>some (p::e',H)
def cZ(sh:Option (List Sh))(row:List UV)(H:UH):Option (List UV×UH):=
 match sh with
 |some l=>Pg.Ui (Pg 8 false) l row H
 |none=>some (row,H)
def rA(Rv:List (Nat×List Sh)):Nat->List (List UV)->UH->Option (List (List UV)×UH)
 |_,[],H=>some ([],H)
 |i,row::F,H=>(cZ (Rv.lookup i) row H).bind λ(Vb,H)=>(rA Rv (i+1) F H).bind λ(F',H)=>some (Vb::F',H)
def sA:List (Nat×List Sh)->UH->Option UH
 |[],H=>some H
 |(b,Rv)::l,H=>
  match H.bl[b]? with
  |some (.Ee row)=>(Pg.Ui (Pg 8 false) Rv row H).bind λ(Vb,H1)=>match H1.bl[b]? with|some (.Ee _)=>sA l (Qa H1 b (.Ee Vb))|_=>none
  |_=>none
structure TH where
 keep:List Nat
 uR:List (Nat×Sh)
 boxes:List (Nat×List Sh)
 saq:List (Nat×List Sh)
def wq(p:TH)(s:St):Option St:=
 if s.H.wm<=s.base then(Zq p.uR (yg p.keep s).e (yg p.keep s).H).bind λ(e,H)=>(rA p.boxes 0 (yg p.keep s).F H).bind λ(F,H)=>(sA p.saq H).bind λH=>if H.wm<=s.base then some (yg p.keep { e,F,H,base:=s.base })else none else none
def Wf:Code->Nat
 | .region id _ _=>id
 | .seq a _=>Wf a
 | .cond _ a _=>Wf a
 | .block _ c=>Wf c
 | .loop c=>Wf c
 | .scope c=>Wf c
 | .rangeFunc _ _ a _=>Wf a
 |_=>0
def Lu(s:St)(x:Operand)(b:Bool):St:=
 match x with
 | .tmp t=>{ s with e:=(t,.v (.bool b))::s.e }
 |_=>s
def code(env:Env)(Ca:List Nat)(n:Nat):Code->St->(V.Ex->St->Option X)->Option X
 | .skip,s,K=>K .normal s
 | .label _,s,K=>K .normal s
 | .region id os draw,s,K=>cond (env.join (2000000+id)) (env.loop X (2000000+id) s K) (region A Na env Ca n os draw s λs=>K .normal s)
 | .seq a b,s,K=>code env Ca n a s λ
  | .normal,s=>code env Ca n b s K
  |ex,s=>K ex s
 | .cond c x y,s,K=>cond (env.join (1000000+Wf x)) (env.loop X (1000000+Wf x) s K) ((val Na s.e c).bind λ
  | .bool b=>cond b (code env Ca n x (Lu s c true) K) (code env Ca n y (Lu s c false) K)
  |_=>none)
 | .block id c,s,K=>code env Ca n c s λ
  | .exit CF,s=>if CF=id then K .normal s else K (.exit CF) s
  |ex,s=>K ex s
 | .scope c,s,K=>code env Ca n c s K
 | .loop c,s,K=>env.loop X (Wf c) s K
 | .rangeFunc g ps a b,s,K=>env.loop X (Wf (.rangeFunc g ps a b)) s K
 | .exit id,s,K=>K (.exit id) s
 | .ret,s,K=>K .ret s
 |_,_,_=>none
def Uh:List UV->Nat->List (Nat×US)
 |[],_=>[]
 |a::as,i=>(i,.v a)::Uh as (i+1)
def results(s:St):List ResultVar->Option (List UV)
 |[]=>some []
 | .tmp t::rs=>(match get s.e t with| .v .Dc=>none| .v a=>some a|_=>none).bind λa=>(results s rs).bind λl=>some (a::l)
 | .cell p t::rs=>(load A s t (get s.e p)).bind λa=>(results s rs).bind λl=>some (a::l)
def result:List UV->UV
 |[a]=>a
 |l=> .Re l
def gc(base:Nat)(r:UV)(H:UH):UV×UH:=
 let s:=yg [0] ⟨[(0,.v r)],[],H,base⟩
 (match get s.e 0 with| .v x=>x|_=> .Dc,s.H)
def oM(env:Env)(Ca:List Nat)(fn:Func)(sh:Sh)(fz:Bool)(args:List UV)(H:UH)(K:UV->UH->Option X):Option X:=
 match fn.body with
 |none=>none
 |some c=>
  if args.length<=fn.ntmps then
   code A Na env Ca fn.ntmps c ⟨Uh args 0,[],H,H.bl.length⟩ λ
    | .exit _,_=>none
    |_,s=>(results A s fn.results.toList).bind λl=>(Pg 8 fz sh.inner (result l) s.H).bind λ(r,H1)=>if(!fz||yc 8 r)&&decide (H1.wm<=H.bl.length)then K (gc H.bl.length r (Hw sh.SC H1)).1 (gc H.bl.length r (Hw sh.SC H1)).2 else none
  else none
def Sj:List Nat->List UV->List (Nat×US)->List (Nat×US)
 |p::ps,a::as,e=>Sj ps as ((p,.v a)::e)
 |_,_,e=>e
def RQ(e:List (Nat×US))(ks:List Nat):List (Nat×UV):=ks.map λi=>(i,match get e i with| .v a=>a|_=> .Dc)
def kf(e:List (Nat×UV)):List (Nat×US):=e.map λp=>(p.1,US.v p.2)
def eL(env:Env)(id n:Nat)(ks:List Nat)(g:Operand)(s:St)(K:V.Ex->St->Option X):Option X:=
 (val Na s.e g).bind λfv=>
  match fv with
  | .fn f cs=>
   if(match A.fns f with|some fn=>fn.body.isSome|none=>false)&&ks.all (λi=>decide (i<n))then
    env.call X (.fn f cs) [.yl s.H.bl.length] (push s.H (.loop id (RQ s.e ks) .ready .normal)) λ_ H'=>
     match H'.bl[s.H.bl.length]? with
     |some (.loop _ _ st pe)=>(match st with| .busy=>none|_=>K pe { s with H:=Qa H' s.H.bl.length .dead })
     |_=>none
   else none
  |_=>none
def nR(env:Env)(id:Nat)(r:RFn)(args:List UV)(H:UH)(K:UV->UH->Option X):Option X:=
 match args with
 | .yl b::as=>
  match H.bl[b]? with
  |some (.loop CF e .ready _)=>
   if CF=id/\as.length=r.ps.length/\H.wm<=b/\r.ps.all (λp=>decide (p<r.n))=true then
    code A Na env [] r.n r.assign ⟨Sj r.ps as (kf e),[],H,H.bl.length⟩ λ
     | .normal,s=>
      match s.H.bl[b]? with
      |some (.loop gS e1 .ready pe1)=>
       code A Na env [] r.n r.body { s with H:=Qa s.H b (.loop gS e1 .busy pe1) } λex s2=>
        match s2.H.bl[b]? with
        |some (.loop fS e2 _ _)=>
         if s2.H.wm<=H.bl.length then
          K (.bool ex.Bh) (gc H.bl.length (.bool ex.Bh) (Qa s2.H b (.loop fS e2 (if ex.Bh then .ready else .done) ex))).2
         else none
        |_=>none
      |_=>none
     |_,_=>none
   else none
  |_=>none
 |_=>none
abbrev Spec:=(X:Type)->List UV->UH->(UV->UH->Option X)->Option X
def bF:List (FuncId×Spec)->FuncId->Spec
 |[],_,_,_,_,_=>none
 |(f,g)::l,f',X,args,H,K=>if f'=f then g X args H K else bF l f' X args H K
def AK(spec:(X:Type)->UV->List UV->UH->(UV->UH->Option X)->Option X)(fv:UV)(args:List UV)(H:UH)(K:UV->UH->Option X):Option X:=
 let bs0:=(reach H 64 ((fv::args).flatMap (ids 8)) []).filter (λb=>Me (H.bl.getD b .dead))
 let lo:=bs0.filter (λb=>decide (b<H.wm))
 let bs:=lo++bs0.filter (λb=>decide (H.wm<=b))
 let φ:=λb=>pos b bs 0
 spec X (Kk φ 8 fv) (args.map (Kk φ 8)) ⟨bs.map λb=>Pu φ (H.bl.getD b .dead),lo.length⟩ λr H1=>
  let news:=(reach H1 64 (mb bs.length++ids 8 r) []).filter (λb=>decide (bs.length<=b))
  let ψ:=λb=>if b<bs.length then bs[b]? else(pos b news 0).map (H.bl.length+ ·)
  K (Kk ψ 8 r) ⟨(mb H.bl.length).map (λb=>match φ b with|some j=>Pu ψ (H1.bl.getD j .dead)|none=>H.bl.getD b .dead)++news.map (λb=>Pu ψ (H1.bl.getD b .dead)),H.wm⟩
def GU(l:List (FuncId×Spec))(X:Type)(fv:UV)(args:List UV)(H:UH)(K:UV->UH->Option X):Option X:=
 AK (λX fv args H K=>match fv with| .fn f cs=>bF l f X (args++cs) H K|_=>none) fv args H K
def x8(l ly:List (FuncId×Spec))(X:Type)(fv:UV)(args:List UV)(H:UH)(K:UV->UH->Option X):Option X:=
 AK (λX fv args H K=>
  match fv with
  | .fn f cs=>bF l f X (args++cs) H K
  | .yl b=>(match H.bl[b]? with|some (.loop id _ _ _)=>bF ly id X (.yl b::args) H K|_=>none)
  |_=>none) fv args H K
end
end Go.U
namespace Go.U
open Go
structure Mp where
 ι:Nat->Nat->Option Nat
 len:Nat->Nat->Nat
 top:Nat
inductive RV(m:Mp):UV->V.AV->Prop
 |Dc (a:V.AV):RV m .Dc a
 |bool (b:Bool):RV m (.bool b) (.bool b)
 |int (k:IntKind) (n:Int):RV m (.int k n) (.int k n)
 |str (s:ByteArray):RV m (.str s) (.str s)
 |Hf:RV m .Hf .Hf
 |ptr (b c x:Nat):m.ι b 0=some x->RV m (.ptr b c) (.ptr x 0 c)
 |Lm (b r c x:Nat):m.ι b 0=some x->r<m.len b 0->RV m (.Lm b r c) (.ptr x r c)
 |ee (row:List UV) (Vb:List V.AV):Vb.length=row.length->(∀x∈row,closed 8 x=true)->
  (∀(c:Nat)(x:UV)(a:V.AV),row[c]?=some x->Vb[c]?=some a->RV m x a)->RV m (.ee row) (.ee Vb)
 |Xa:RV m .Xa .Xa
 |Ef:RV m .Ef .Ef
 |sl (b r n x:Nat):m.ι b 0=some x->r+n<=m.len b 0->RV m (.sl b r n) (.sl x r n)
 |iw (b r:Nat) (a:V.AV):a= .Xa\/a= .Ef->RV m (.sl b r 0) a
 |all (b x:Nat):m.ι b 0=some x->RV m (.all b) (.sl x 0 (m.len b 0))
 |Ug (b:Nat) (a:V.AV):b<m.top->m.len b 0=0->a= .Xa\/a= .Ef->RV m (.all b) a
 |Rt (b r x:Nat):m.ι b (r+1)=some x->RV m (.Rt b r) (.sl x 0 (m.len b (r+1)))
 |Dv (b r:Nat) (a:V.AV):b<m.top->m.len b (r+1)=0->a= .Xa\/a= .Ef->RV m (.Rt b r) a
 |Dq (b r j c x:Nat):m.ι b (r+1)=some x->j<m.len b (r+1)->RV m (.Dq b r j c) (.ptr x j c)
 |lit (c:CT) (l:List (Ib c)) (rows:List (List V.AV)):rows.length=l.length->
  (∀(i:Nat)(row:List V.AV),rows[i]?=some row->row.length=width c)->
  (∀(i:Nat)(row:List V.AV)(k:Nat)(x:UV)(a:V.AV),rows[i]?=some row->(vw c l i)[k]?=some x->row[k]?=some a->RV m x a)->RV m (.lit c l) (.lit (width c) rows)
 |bh (c:CT) (a:V.AV):a= .Xa\/a= .Ef->RV m (.lit c []) a
 |ig:RV m .ig .ig
 |mp (b x:Nat):m.ι b 0=some x->RV m (.mp b) (.mp x)
 |og:RV m .og .og
 |fn (f:FuncId) (cs:List UV) (as:List V.AV):as.length=cs.length->(∀(i:Nat)(x:UV)(a:V.AV),cs[i]?=some x->as[i]?=some a->RV m x a)->RV m (.fn f cs) (.fn f as)
 |yl (b x:Nat):m.ι b 0=some x->RV m (.yl b) (.yl x)
 |zh:RV m .zh .zh
 |agg (cs:List UV) (as:List V.AV):as.length=cs.length->(∀(i:Nat)(x:UV)(a:V.AV),cs[i]?=some x->as[i]?=some a->RV m x a)->RV m (.agg cs) (.agg as)
 |Re (cs:List UV) (as:List V.AV):as.length=cs.length->(∀(i:Nat)(x:UV)(a:V.AV),cs[i]?=some x->as[i]?=some a->RV m x a)->RV m (.Re cs) (.Re as)
def RL(m:Mp)(xs:List UV)(as:List V.AV):Prop:=as.length=xs.length/\∀(i:Nat)(x:UV)(a:V.AV),xs[i]?=some x->as[i]?=some a->RV m x a
structure Mp.Le(m m':Mp):Prop where
 of:∀b{s}x,m.ι b s=some x->m'.ι b s=some x/\m'.len b s=m.len b s
 top:m.top<=m'.top
 len:∀b,b<m.top->m'.len b=m.len b
theorem Mp.Le.refl(m:Mp):m.Le m:=⟨λ_ _ _ h=>⟨h,rfl⟩,ya _,λ_ _=>rfl⟩
theorem Mp.Le.trans{m m' m'':Mp}(h:m.Le m')(h':m'.Le m''):m.Le m'':=⟨λb _ x hb=>⟨(h'.of b x (h.of b x hb).1).1,(h'.of b x (h.of b x hb).1).2.trans (h.of b x hb).2⟩,Db h.top h'.top,λb hb=>(h'.len b (Sa hb h.top)).trans (h.len b hb)⟩
theorem Zj:∀(c:CT)(x:Ib c),(enc c x).length=width c
 | .bool,_=>rfl
 | .int _,_=>rfl
 | .str,_=>rfl
 | .slice _,_=>rfl
 | .pair a b,(x,y)=>by simp[enc,width,Zj a x,Zj b y]
theorem Em:∀(c:CT)(x:Ib c)(v:UV),v∈enc c x->closed 8 v=true
 | .bool,_,v,h=>by simp[enc]at h;subst h;rfl
 | .int _,_,v,h=>by simp[enc]at h;subst h;rfl
 | .str,_,v,h=>by simp[enc]at h;subst h;rfl
 | .slice _,_,v,h=>by simp[enc]at h;subst h;rfl
 | .pair a b,(x,y),v,h=>by
  simp only[enc,jh]at h;rcases h with h|h
  ·exact Em a x v h
  ·exact Em b y v h
theorem kg(c:CT)(l:List (Ib c))(i:Nat):(vw c l i).length=width c:=Zj c _
theorem Te(c:CT)(l:List (Ib c))(i:Nat)(v:UV)(h:v∈vw c l i):closed 8 v=true:=Em c _ v h
theorem RV.mono{m m':Mp}(h:m.Le m'){x:UV}{a:V.AV}(hx:RV m x a):RV m' x a:=by
 induction hx with
 |Dc a=>exact .Dc a
 |bool b=>exact .bool b
 |int k n=>exact .int k n
 |str s=>exact .str s
 |Hf=>exact .Hf
 |ptr b c x hb=>exact .ptr b c x (h.of b x hb).1
 |Lm b r c x hb hr=>exact .Lm b r c x (h.of b x hb).1 (by rw[(h.of b x hb).2];exact hr)
 |ee row Vb hl hc _ ih=>exact .ee row Vb hl hc ih
 |Xa=>exact .Xa
 |Ef=>exact .Ef
 |sl b r n x hb hr=>exact .sl b r n x (h.of b x hb).1 (by rw[(h.of b x hb).2];exact hr)
 |iw b r a ha=>exact .iw b r a ha
 |all b x hb=>rw[<- (h.of b x hb).2];exact .all b x (h.of b x hb).1
 |Ug b a hb hl ha=>exact .Ug b a (Sa hb h.top) (by rw[h.len b hb];exact hl) ha
 |Rt b r x hb=>rw[<- (h.of b x hb).2];exact .Rt b r x (h.of b x hb).1
 |Dv b r a hb hl ha=>exact .Dv b r a (Sa hb h.top) (by rw[h.len b hb];exact hl) ha
 |Dq b r j c x hb hr=>exact .Dq b r j c x (h.of b x hb).1 (by rw[(h.of b x hb).2];exact hr)
 |lit c l rows h1 h2 _ ih=>exact .lit c l rows h1 h2 ih
 |bh c a ha=>exact .bh c a ha
 |ig=>exact .ig
 |mp b x hb=>exact .mp b x (h.of b x hb).1
 |og=>exact .og
 |fn f cs as hl _ ih=>exact .fn f cs as hl ih
 |yl b x hb=>exact .yl b x (h.of b x hb).1
 |zh=>exact .zh
 |agg cs as hl _ ih=>exact .agg cs as hl ih
 |Re cs as hl _ ih=>exact .Re cs as hl ih
theorem RL.mono{m m':Mp}(h:m.Le m'){xs:List UV}{as:List V.AV}(hx:RL m xs as):RL m' xs as:=⟨hx.1,λi x a h1 h2=>(hx.2 i x a h1 h2).mono h⟩
theorem RV.free{m:Mp}(m':Mp){x:UV}{a:V.AV}(hx:RV m x a):∀d,closed d x=true->RV m' x a:=by
 induction hx with
 |Dc a=>intro d hd;cases d<;>simp[closed]at hd
 |bool b=>intro _ _;exact .bool b
 |int k n=>intro _ _;exact .int k n
 |str s=>intro _ _;exact .str s
 |Hf=>intro _ _;exact .Hf
 |ptr b c x hb=>intro d hd;cases d<;>simp[closed]at hd
 |Lm b r c x hb hr=>intro d hd;cases d<;>simp[closed]at hd
 |ee row Vb hl hc _ ih=>intro _ _;exact .ee row Vb hl hc λc x a h1 h2=>ih c x a h1 h2 8 (hc x (Eb h1))
 |Xa=>intro _ _;exact .Xa
 |Ef=>intro _ _;exact .Ef
 |sl b r n x hb hr=>intro d hd;cases d<;>simp[closed]at hd
 |iw b r a ha=>intro d hd;cases d<;>simp[closed]at hd
 |all b x hb=>intro d hd;cases d<;>simp[closed]at hd
 |Ug b a hb hl ha=>intro d hd;cases d<;>simp[closed]at hd
 |Rt b r x hb=>intro d hd;cases d<;>simp[closed]at hd
 |Dv b r a hb hl ha=>intro d hd;cases d<;>simp[closed]at hd
 |Dq b r j c x hb hr=>intro d hd;cases d<;>simp[closed]at hd
 |lit c l rows h1 h2 _ ih=>intro _ _;exact .lit c l rows h1 h2 λi row k x a k1 k2 k3=>ih i row k x a k1 k2 k3 8 (Te c l i x (Eb k2))
 |bh c a ha=>intro _ _;exact .bh c a ha
 |ig=>intro _ _;exact .ig
 |mp b x hb=>intro d hd;cases d<;>simp[closed]at hd
 |og=>intro _ _;exact .og
 |fn f cs as hl _ ih=>
  intro d hd;cases d with
  |zero=>simp[closed]at hd
  |succ d=>exact .fn f cs as hl λi x a h1 h2=>ih i x a h1 h2 d (ec.1 (by simpa[closed]using hd) x (Eb h1))
 |yl b x hb=>intro d hd;cases d<;>simp[closed]at hd
 |zh=>intro _ _;exact .zh
 |agg cs as hl _ ih=>intro d hd;cases d<;>simp[closed]at hd
 |Re cs as hl _ ih=>intro d hd;cases d<;>simp[closed]at hd
theorem RV.O0{m:Mp}(m':Mp):∀(d:Nat){x:UV}{a:V.AV},RV m x a->yc d x=true->RV m' x a
 |0,x,a,_,hd=>by simp[yc]at hd
 |d+1,x,a,hx,hd=>by
  cases x with
  |agg cs=>
   cases hx with
   |agg _ as hl hr=>exact .agg cs as hl λi x a h1 h2=>RV.O0 m' d (hr i x a h1 h2) (ec.1 (by simpa[yc]using hd) x (Eb h1))
  |Re cs=>
   cases hx with
   |Re _ as hl hr=>exact .Re cs as hl λi x a h1 h2=>RV.O0 m' d (hr i x a h1 h2) (ec.1 (by simpa[yc]using hd) x (Eb h1))
  |_=>exact hx.free m' 8 (by simpa[yc]using hd)
theorem RV.Kk{m m':Mp}{φ:Nat->Option Nat}(h:∀b b',φ b=some b'->m'.ι b'=m.ι b/\m'.len b'=m.len b/\b'<m'.top):∀(d:Nat){x:UV}{a:V.AV},RV m x a->RV m' (U.Kk φ d x) a
 |0,x,a,_=> .Dc a
 |d+1,x,a,hx=>by
  cases hx with
  |Dc a=>exact .Dc a
  |bool b=>exact .bool b
  |int k n=>exact .int k n
  |str s=>exact .str s
  |Hf=>exact .Hf
  |ptr b c x hb=>
   simp only[U.Kk];split
   ·rename_i b' Wd;exact .ptr b' c x (by rw[(h b b' Wd).1];exact hb)
   ·exact .Dc _
  |Lm b r c x hb hr=>
   simp only[U.Kk];split
   ·rename_i b' Wd;exact .Lm b' r c x (by rw[(h b b' Wd).1];exact hb) (by rw[(h b b' Wd).2.1];exact hr)
   ·exact .Dc _
  |ee row Vb hl hc hr=>exact RV.free m' (.ee row Vb hl hc hr) 1 rfl
  |Xa=>exact .Xa
  |Ef=>exact .Ef
  |sl b r n x hb hr=>
   simp only[U.Kk];split
   ·rename_i b' Wd;exact .sl b' r n x (by rw[(h b b' Wd).1];exact hb) (by rw[(h b b' Wd).2.1];exact hr)
   ·exact .Dc _
  |iw b r a ha=>
   simp only[U.Kk];split
   ·exact .iw _ r a ha
   ·exact .Dc _
  |all b x hb=>
   simp only[U.Kk];split
   ·rename_i b' Wd;rw[<- (h b b' Wd).2.1];exact .all b' x (by rw[(h b b' Wd).1];exact hb)
   ·exact .Dc _
  |Ug b a hb hl ha=>
   simp only[U.Kk];split
   ·rename_i b' Wd;exact .Ug b' a (h b b' Wd).2.2 (by rw[(h b b' Wd).2.1];exact hl) ha
   ·exact .Dc _
  |Rt b r x hb=>
   simp only[U.Kk];split
   ·rename_i b' Wd;rw[<- (h b b' Wd).2.1];exact .Rt b' r x (by rw[(h b b' Wd).1];exact hb)
   ·exact .Dc _
  |Dv b r a hb hl ha=>
   simp only[U.Kk];split
   ·rename_i b' Wd;exact .Dv b' r a (h b b' Wd).2.2 (by rw[(h b b' Wd).2.1];exact hl) ha
   ·exact .Dc _
  |Dq b r j c x hb hr=>
   simp only[U.Kk];split
   ·rename_i b' Wd;exact .Dq b' r j c x (by rw[(h b b' Wd).1];exact hb) (by rw[(h b b' Wd).2.1];exact hr)
   ·exact .Dc _
  |lit c l rows h1 h2 h3=>exact RV.free m' (.lit c l rows h1 h2 h3) 1 rfl
  |bh c a ha=>exact .bh c a ha
  |ig=>exact .ig
  |mp b x hb=>
   simp only[U.Kk];split
   ·rename_i b' Wd;exact .mp b' x (by rw[(h b b' Wd).1];exact hb)
   ·exact .Dc _
  |og=>exact .og
  |fn f cs as hl hr=>
   refine .fn f _ as (by simp[hl]) λi x a h1 h2=> ?_
   rw[xe,ja]at h1;obtain⟨y,hy,rfl⟩:=h1;exact RV.Kk h d (hr i y a hy h2)
  |yl b x hb=>
   simp only[U.Kk];split
   ·rename_i b' Wd;exact .yl b' x (by rw[(h b b' Wd).1];exact hb)
   ·exact .Dc _
  |zh=>exact .zh
  |agg cs as hl hr=>
   refine .agg _ as (by simp[hl]) λi x a h1 h2=> ?_
   rw[xe,ja]at h1;obtain⟨y,hy,rfl⟩:=h1;exact RV.Kk h d (hr i y a hy h2)
  |Re cs as hl hr=>
   refine .Re _ as (by simp[hl]) λi x a h1 h2=> ?_
   rw[xe,ja]at h1;obtain⟨y,hy,rfl⟩:=h1;exact RV.Kk h d (hr i y a hy h2)
variable [TB:Uv]
def Uo(m:Mp)(z n:Nat)(f:Nat->List UV)(rows:List (List V.AV)):Prop:=
 (∀i,i<n->(f i).length=z/\∀x∈f i,closed 8 x=true)/\(∀(i:Nat)(row:List V.AV),i<n->rows[i]?=some row->row.length=z)/\
 ∀(i:Nat)(row:List V.AV)(c:Nat)(x:UV)(a:V.AV),i<n->rows[i]?=some row->(f i)[c]?=some x->row[c]?=some a->RV m x a
def Wi:(k:KT)->Zd k->V.AV
 | .int k,i=> .int k i
 | .str,s=> .str s
def MR(k:KT)(m:Mp):List (Zd k×UV)->List (V.AV×V.AV)->Prop
 |[],[]=>True
 |(i,v)::es,(key,a)::ie=>key=Wi k i/\RV m v a/\yc 8 v=true/\MR k m es ie
 |_,_=>False
def nl{k:KT}(g:Bool)(c:CT)(l:List (Zd k×Ib c)):List (Zd k×UV):=l.map λp=>(p.1,valOf g c p.2)
def Jm(m:Mp)(Hv:V.AH)(o:Option Nat)(c:CT)(l:List (Ib c))(a:V.AV):Prop:=
 (l.length=0/\o=none/\(a= .Xa\/a= .Ef))\/
  ∃y rows ty,o=some y/\a= .sl y 0 l.length/\Hv.bl[y]?=some (.cells rows (width c) ty)/\l.length<=rows.length/\Uo m (width c) l.length (vw c l) rows
def RB(m:Mp)(Hv:V.AH)(b:Nat):UB->Prop
 | .dead=>True
 | .Ee row=>∃x Vb ty,m.ι b 0=some x/\Hv.bl[x]?=some (.cells [Vb] Vb.length ty)/\RL m row Vb
 | .cells c l=>m.len b 0=l.length/\((l.length=0/\m.ι b 0=none)\/∃x rows ty,m.ι b 0=some x/\Hv.bl[x]?=some (.cells rows (width c) ty)/\l.length<=rows.length/\Uo m (width c) l.length (vw c l) rows)
 | .deep c l=>m.len b 0=l.length/\(∀r,m.len b (r+1)=(l.getD r []).length/\(l.length<=r->m.ι b (r+1)=none))/\((l.length=0/\m.ι b 0=none)\/∃x rows ty,m.ι b 0=some x/\Hv.bl[x]?=some (.cells rows 1 ty)/\l.length<=rows.length/\
  ∀r,r<l.length->∃a,rows[r]?=some [a]/\Jm m Hv (m.ι b (r+1)) c (l.getD r []) a)
 | .Jg k es=>∃x ie,m.ι b 0=some x/\Hv.bl[x]?=some (.map ie)/\MR k m es ie
 | .Pe k g c l=>∃x ie,m.ι b 0=some x/\Hv.bl[x]?=some (.map ie)/\MR k m (nl g c l) ie
 | .loop id env st pe=>∃x On,m.ι b 0=some x/\Hv.bl[x]?=some (.loop (TB.rf id).n (mb (TB.rf id).n) On (TB.rf id).ps (TB.rf id).assign (TB.rf id).body st pe.jump)/\∀t,match get (kf env) t,V.get (V.kf On) t with
   | .v y,.v a=>RV m y a
   |_,_=>False
 | .Un q=>∃x p q',m.ι b 0=some x/\Hv.bl[x]?=some (.cells [[p,q']] 2 (some (TB.bT,2)))/\(p= .Hf\/p= .ptr x 0 0)/\RV m q q'/\q'≠ .Ef
 | .Fq s=>m.len b 0=s.size/\((s.size=0/\m.ι b 0=none)\/∃x,m.ι b 0=some x/\Hv.bl[x]?=some (.cells (V.Qc s) 1 (some (TB.uT,1)))/\0<s.size/\s.size<=70368744177664)
def live(H:UH)(b:Nat):Prop:=∃x,H.bl[b]?=some x/\Me x=true
structure RH(m:Mp)(H:UH)(Hv:V.AH):Prop where
 Ff:∀b{s}x,m.ι b s=some x->b<H.bl.length/\x<Hv.bl.length
 Kf:∀b y,H.bl[b]?=some y->RB m Hv b y
 Ao:∀b b'{s s'}x,live H b->live H b'->m.ι b s=some x->m.ι b' s'=some x->b=b'/\s=s'
 wm:∀b{s}x,m.ι b s=some x->H.wm<=b->Hv.wm<=x
 top:Hv.wm<=Hv.bl.length
 len:m.top=H.bl.length
theorem RH.inj{m:Mp}{H:UH}{Hv:V.AH}(h:RH m H Hv)(b b':Nat){s s':Nat}(x:Nat)(h1:live H b)(h2:live H b')(h3:m.ι b s=some x)(h4:m.ι b' s'=some x):b=b':=(h.Ao b b' x h1 h2 h3 h4).1
def PX(n:Nat)(m m':Mp):Prop:=n<=m'.top/\∀b,b<n->m'.ι b=m.ι b/\m'.len b=m.len b
structure gm(n:Nat)(m:Mp)(Hv:V.AH)(m':Mp)(zd:V.AH):Prop where
 Mk:PX n m m'
 stay:∀x,x<Hv.bl.length->(∀b s,m.ι b s≠some x)->zd.bl[x]?=Hv.bl[x]?
 new:∀b{s}x,m'.ι b s=some x->(∃b0 s0,m.ι b0 s0=some x)\/Hv.bl.length<=x
 len:Hv.bl.length<=zd.bl.length
 wm:zd.wm=Hv.wm
theorem PX.refl{n:Nat}{m:Mp}(h:n<=m.top):PX n m m:=⟨h,λ_ _=>⟨rfl,rfl⟩⟩
theorem PX.trans{n n':Nat}{m m1 m2:Mp}(h:PX n m m1)(h':PX n' m1 m2)(hn:n<=n'):PX n m m2:=⟨Db hn h'.1,λb hb=>⟨(h'.2 b (by omega)).1.trans (h.2 b hb).1,(h'.2 b (by omega)).2.trans (h.2 b hb).2⟩⟩
theorem PX.less{n n':Nat}{m m1:Mp}(h:PX n m m1)(hn:n'<=n):PX n' m m1:=⟨Db hn h.1,λb hb=>h.2 b (by omega)⟩
theorem gm.refl{n:Nat}{m:Mp}(Hv:V.AH)(hn:n<=m.top):gm n m Hv m Hv:=⟨.refl hn,λ_ _ _=>rfl,λb _ x h=> .inl ⟨b,_,h⟩,ya _,rfl⟩
theorem gm.less{n n':Nat}{m m1:Mp}{H H1:V.AH}(h:gm n m H m1 H1)(hn:n'<=n):gm n' m H m1 H1:=⟨h.Mk.less hn,h.stay,h.new,h.len,h.wm⟩
theorem gm.trans{n n':Nat}{m m1 m2:Mp}{H H1 H2:V.AH}(h:gm n m H m1 H1)(h':gm n' m1 H1 m2 H2)(hn:n<=n'):gm n m H m2 H2 where
 Mk:=h.Mk.trans h'.Mk hn
 stay x hx hn:=(h'.stay x (Sa hx h.len) λb s hb=>by
  rcases h.new b x hb with⟨b0,s0,h0⟩|h0
  ·exact hn b0 s0 h0
  ·omega).trans (h.stay x hx hn)
 new b s x hb:=by
  rcases h'.new b x hb with⟨b0,s0,h0⟩|h0
  ·exact h.new b0 x h0
  ·exact .inr (Db h.len h0)
 len:=Db h.len h'.len
 wm:=h'.wm.trans h.wm
def RS(m:Mp)(φ:Nat->Option Nat):US->V.SV->Prop
 | .v .Dc,_=>True
 | .v x,.v a=>RV m x a
 | .loc i c,.loc j c'=>φ i=some j/\c'=c
 |_,_=>False
structure RF(m:Mp)(φ:Nat->Option Nat)(F:List (List UV))(Fv:List (List V.AV)):Prop where
 Ff:∀i j,φ i=some j->i<F.length/\j<Fv.length
 row:∀i row,F[i]?=some row->∃j Vb,φ i=some j/\Fv[j]?=some Vb/\RL m row Vb
 inj:∀i i' j,φ i=some j->φ i'=some j->i=i'
def RE(m:Mp)(φ:Nat->Option Nat)(e:List (Nat×US))(ev:List (Nat×V.SV)):Prop:=∀t,RS m φ (get e t) (V.get ev t)
structure xn(m:Mp)(φ:Nat->Option Nat)(s:St)(sv:V.S):Prop where
 h:RH m s.H sv.H
 f:RF m φ s.F sv.F
 e:RE m φ s.e sv.e
 b:s.base<=s.H.bl.length
end Go.U
namespace Go.U
open Go
variable [TB:Uv]
theorem Za{α:Type}{l:List α}{i:Nat}{x:α}(h:l[i]?=some x):i<l.length:=by
 rcases dc i l.length with h'|h'
 ·exact h'
 ·simp[Nb h']at h
section
variable {A:V.Oi}{Na:Nat->Option (List UV)}{m:Mp}{φ:Nat->Option Nat}
def tf(A:V.Oi)(Na:Nat->Option (List UV)):Prop:=∀i row,Na i=some row->∃Vb,A.Na i=some Vb/\∀m,RV m (.ee row) (.ee Vb)
theorem Zz{v:Value}{x:UV}(h:jk v=some x):∃a,V.Ql v=some a/\∀m,RV m x a:=by
 unfold jk at h;split at h<;>simp at h<;>subst h
 ·exact⟨_,rfl,λ_=> .bool _⟩
 ·exact⟨_,rfl,λ_=> .int _ _⟩
 ·exact⟨_,rfl,λ_=> .str _⟩
 ·exact⟨_,rfl,λ_=> .Hf⟩
 ·exact⟨_,rfl,λ_=> .Xa⟩
 ·exact⟨_,rfl,λ_=> .ig⟩
 ·exact⟨_,rfl,λ_=> .og⟩
 ·exact⟨_,rfl,λ_=> .zh⟩
theorem vK{v:Value}{x:UV}(h:jk v=some x):closed 8 x=true:=by
 unfold jk at h;split at h<;>simp at h<;>subst h<;>rfl
theorem jG{v:Value}{x:UV}(h:jk v=some x):yc 8 x=true:=by
 unfold jk at h;split at h<;>simp at h<;>subst h<;>rfl
theorem RL.nil{m:Mp}:RL m [] []:=⟨rfl,λi x a h=>by simp at h⟩
theorem RL.cons{m:Mp}{x:UV}{a:V.AV}{xs:List UV}{as:List V.AV}(h:RV m x a)(hs:RL m xs as):RL m (x::xs) (a::as):=
 ⟨by simp[hs.1],λi y b h1 h2=>by
  cases i with
  |zero=>simp at h1 h2;subst h1;subst h2;exact h
  |succ i=>exact hs.2 i y b (by simpa using h1) (by simpa using h2)⟩
theorem RL.get{m:Mp}{xs:List UV}{as:List V.AV}(h:RL m xs as){i:Nat}{x:UV}(hx:xs[i]?=some x):∃a,as[i]?=some a/\RV m x a:=by
 have:=Za hx;have ha:=Da (l:=as) (i:=i) (by rw[h.1];exact this);exact⟨_,ha,h.2 i x _ hx ha⟩
theorem RL.drop{m:Mp}{xs:List UV}{as:List V.AV}(h:RL m xs as)(n:Nat):RL m (xs.drop n) (as.drop n):=
 ⟨by simp[h.1],λi x a h1 h2=>h.2 (n+i) x a (by simpa[Lc]using h1) (by simpa[Lc]using h2)⟩
theorem RL.take{m:Mp}{xs:List UV}{as:List V.AV}(h:RL m xs as)(n:Nat):RL m (xs.take n) (as.take n):=
 ⟨by simp[h.1],λi x a h1 h2=>by
  rw[Jb]at h1 h2;split at h1
  ·rename_i hi;rw[if_pos hi]at h2;exact h.2 i x a h1 h2
  ·simp at h1⟩
theorem RL.append{m:Mp}{xs ys:List UV}{as bs:List V.AV}(h:RL m xs as)(h':RL m ys bs):RL m (xs++ys) (as++bs):=
 ⟨by simp[h.1,h'.1],λi x a h1 h2=>by
  rcases dc i xs.length with hi|hi
  ·rw[Ja hi]at h1;rw[Ja (by rw[h.1];exact hi)]at h2;exact h.2 i x a h1 h2
  ·rw[Oa hi]at h1;rw[Oa (by rw[h.1];exact hi),h.1]at h2;exact h'.2 _ x a h1 h2⟩
theorem RL.free{m:Mp}(m':Mp){xs:List UV}{as:List V.AV}(h:RL m xs as)(hc:∀x∈xs,closed 8 x=true):RL m' xs as:=
 ⟨h.1,λi x a h1 h2=>(h.2 i x a h1 h2).free m' 8 (hc x (Eb h1))⟩
theorem Gm:∀{vs:List Value}{xs:List UV},Jd vs=some xs->∃ as,V.Jd vs=some as/\(∀m,RL m xs as)/\∀x∈xs,closed 8 x=true
 |[],xs,h=>by simp[Jd]at h;subst h;exact⟨[],rfl,λ_=> .nil,λx hx=>by simp at hx⟩
 |v::vs,xs,h=>by
  simp only[Jd,aa]at h;obtain⟨x,hx,ys,Zy,h⟩:=h;simp at h;subst h;obtain⟨a,h1,h2⟩:=Zz hx;obtain⟨as,h3,h4,h5⟩:=Gm Zy;refine⟨a::as,by simp[V.Jd,h1,h3],λm=> .cons (h2 m) (h4 m),λy hy=> ?_⟩;rcases me.1 hy with rfl|hy
  ·exact vK hx
  ·exact h5 y hy
theorem Gq{t:TypeId}{z:List UV}(h:zero A t=some z):∃z',V.zero A t=some z'/\(∀m,RL m z z')/\∀x∈z,closed 8 x=true:=by
 unfold zero at h;unfold V.zero;split at h
 ·rename_i v hv;rw[hv];exact Gm h
 ·simp at h
theorem PU{t:TypeId}{z:UV}(h:zeroV A t=some z):∃z',V.zeroV A t=some z'/\(∀m,RV m z z')/\yc 8 z=true:=by
 unfold zeroV at h;unfold V.zeroV;split at h
 ·rename_i cs hv;rw[hv];simp only[ja]at h;obtain⟨xs,jt,rfl⟩:=h;unfold Jd at jt;have jam:Jd cs.toList=some xs:=by unfold Jd;exact jt
  obtain⟨as,h1,h2,h3⟩:=Gm jam;refine⟨.agg as,by simp[h1],λm=> .agg _ _ (h2 m).1 (h2 m).2,?_⟩;simp only[yc,ec];intro x hx;have h8:=h3 x hx;obtain⟨i,hi⟩:=Ve hx;have DB:∀{vs:List Value}{xs:List UV},Jd vs=some xs->∀x∈xs,yc 7 x=true:=by
   intro vs;induction vs with
   |nil=>intro xs h x hx;simp[Jd]at h;subst h;simp at hx
   |cons v vs ih=>
    intro xs h x hx;simp only[Jd,aa]at h;obtain⟨y,hy,ys,Zy,h⟩:=h;simp at h;subst h;rcases me.1 hx with rfl|hx
    ·unfold jk at hy;split at hy<;>simp at hy<;>subst hy<;>rfl
    ·exact ih Zy x hx
  exact DB jam x hx
 ·rename_i v td hv;obtain⟨a,h1,h2⟩:=Zz h;refine⟨a,?_,h2,jG h⟩;rw[hv];cases v<;>first|exact h1|(exfalso;exact td _ rfl)
 ·simp at h
theorem qe(hg:tf A Na){e:List (Nat×US)}{ev:List (Nat×V.SV)}{x:Operand}{v:US}(h:operand Na e x=some v)(he:RE m φ e ev):∃vv,V.operand A ev x=some vv/\RS m φ v vv:=by
 have up:∀{y:UV}{a:V.AV},RV m y a->RS m φ (.v y) (.v a):=λ{y a}h=>by cases y<;>first|trivial|exact h
 cases x with
 |tmp t=>simp[operand]at h;subst h;exact⟨_,rfl,he t⟩
 |const c=>
  simp only[operand,ja]at h;obtain⟨y,hy,rfl⟩:=h;obtain⟨a,h1,h2⟩:=Zz hy;exact⟨.v a,by simp[V.operand,h1],up (h2 m)⟩
 |global i=>
  simp only[operand,ja]at h;obtain⟨row,hr,rfl⟩:=h;obtain⟨Vb,h1,h2⟩:=hg i row hr;exact⟨.v (.ee Vb),by simp[V.operand,h1],up (h2 m)⟩
 |func f=>
  simp[operand]at h;subst h;exact⟨.v (.fn f []),rfl,up (.fn f [] [] rfl λi x a h=>by simp at h)⟩
theorem RS.val{x:UV}{vv:V.SV}(h:RS m φ (.v x) vv)(td:x≠ .Dc):∃a,vv= .v a/\RV m x a:=by
 cases vv with
 |v a=>cases x<;>first|exact absurd rfl td|exact⟨a,rfl,h⟩
 |loc i c=>cases x<;>first|exact absurd rfl td|exact h.elim
theorem RV.rs{x:UV}{a:V.AV}(h:RV m x a):RS m φ (.v x) (.v a):=by cases x<;>first|trivial|exact h
theorem sC{e:List (Nat×US)}{x:Operand}{a:UV}(h:val Na e x=some a):operand Na e x=some (.v a)/\a≠ .Dc:=by
 unfold val at h;split at h
 ·simp at h
 ·rename_i y td hy;simp at h;subst h;exact⟨hy,td⟩
 ·simp at h
theorem yd(hg:tf A Na){e:List (Nat×US)}{ev:List (Nat×V.SV)}{x:Operand}{a:UV}(h:val Na e x=some a)(he:RE m φ e ev):∃a',V.val A ev x=some a'/\RV m a a':=by
 obtain⟨h1,h2⟩:=sC h;obtain⟨vv,h3,h4⟩:=qe hg h1 he;obtain⟨a',rfl,h5⟩:=h4.val h2;exact⟨a',by simp[V.val,h3],h5⟩
theorem Jq(hg:tf A Na){e:List (Nat×US)}{ev:List (Nat×V.SV)}(he:RE m φ e ev):∀{l:List Operand}{as:List UV},Pk Na e l=some as->∃Vn,V.Pk A ev l=some Vn/\RL m as Vn
 |[],as,h=>by simp[Pk]at h;subst h;exact⟨[],rfl,.nil⟩
 |x::l,as,h=>by
  simp only[Pk,aa]at h;obtain⟨a,ha,ys,Zy,h⟩:=h;simp at h;subst h;obtain⟨a',h1,h2⟩:=yd hg ha he;obtain⟨Vn,h3,h4⟩:=Jq hg he Zy;exact⟨a'::Vn,by simp[V.Pk,h1,h3],.cons h2 h4⟩
def RP(m:Mp)(ps:List (Nat×UV))(qs:List (Nat×V.AV)):Prop:=qs.map (·.1)=ps.map (·.1)/\RL m (ps.map (·.2)) (qs.map (·.2))
theorem Ps(hg:tf A Na){e:List (Nat×US)}{ev:List (Nat×V.SV)}(he:RE m φ e ev):∀{l:List (Nat×Operand)}{ps:List (Nat×UV)},parts Na e l=some ps->∃qs,V.parts A ev l=some qs/\RP m ps qs
 |[],ps,h=>by simp[parts]at h;subst h;exact⟨[],rfl,rfl,.nil⟩
 |(i,x)::l,ps,h=>by
  simp only[parts,aa]at h;obtain⟨a,ha,ys,Zy,h⟩:=h;simp at h;subst h;obtain⟨a',h1,h2⟩:=yd hg ha he;obtain⟨qs,h3,h4,h5⟩:=Ps hg he Zy;exact⟨(i,a')::qs,by simp[V.parts,h1,h3],by simp[h4],.cons h2 h5⟩
theorem Tt{x:UV}{a:V.AV}{cs:List UV}(h:x.cells?=some cs)(hx:RV m x a):∃Ei,a.cells?=some Ei/\RL m cs Ei:=by
 have one:∀{y:UV}{b:V.AV},RV m y b->cs=[y]->b.cells?=some [b]->∃Ei,b.cells?=some Ei/\RL m cs Ei:=λ{y b}h1 h2 h3=>⟨_,h3,by rw[h2];exact .cons h1 .nil⟩
 cases hx with
 |Dc a=>simp[UV.cells?]at h
 |Re cs as hl hr=>simp[UV.cells?]at h
 |agg cs as hl hr=>simp[UV.cells?]at h;subst h;exact⟨as,rfl,hl,hr⟩
 |bool b=>simp[UV.cells?]at h;exact one (.bool b) h.symm rfl
 |int k n=>simp[UV.cells?]at h;exact one (.int k n) h.symm rfl
 |str s=>simp[UV.cells?]at h;exact one (.str s) h.symm rfl
 |Hf=>simp[UV.cells?]at h;exact one .Hf h.symm rfl
 |ptr b c x hb=>simp[UV.cells?]at h;exact one (.ptr b c x hb) h.symm rfl
 |Lm b r c x hb hr=>simp[UV.cells?]at h;exact one (.Lm b r c x hb hr) h.symm rfl
 |ee row Vb hl hc hr=>simp[UV.cells?]at h;exact one (.ee row Vb hl hc hr) h.symm rfl
 |Xa=>simp[UV.cells?]at h;exact one .Xa h.symm rfl
 |Ef=>simp[UV.cells?]at h;exact one .Ef h.symm rfl
 |sl b r n x hb hr=>simp[UV.cells?]at h;exact one (.sl b r n x hb hr) h.symm rfl
 |iw b r a ha=>simp[UV.cells?]at h;exact one (.iw b r a ha) h.symm (by rcases ha with rfl|rfl<;>rfl)
 |all b x hb=>simp[UV.cells?]at h;exact one (.all b x hb) h.symm rfl
 |Ug b a hb hl ha=>simp[UV.cells?]at h;exact one (.Ug b a hb hl ha) h.symm (by rcases ha with rfl|rfl<;>rfl)
 |Rt b r x hb=>simp[UV.cells?]at h;exact one (.Rt b r x hb) h.symm rfl
 |Dv b r a hb hl ha=>simp[UV.cells?]at h;exact one (.Dv b r a hb hl ha) h.symm (by rcases ha with rfl|rfl<;>rfl)
 |Dq b r j c x hb hr=>simp[UV.cells?]at h;exact one (.Dq b r j c x hb hr) h.symm rfl
 |lit c l rows h1 h2 h3=>simp[UV.cells?]at h;exact one (.lit c l rows h1 h2 h3) h.symm rfl
 |bh c a ha=>simp[UV.cells?]at h;exact one (.bh c a ha) h.symm (by rcases ha with rfl|rfl<;>rfl)
 |ig=>simp[UV.cells?]at h;exact one .ig h.symm rfl
 |mp b x hb=>simp[UV.cells?]at h;exact one (.mp b x hb) h.symm rfl
 |og=>simp[UV.cells?]at h;exact one .og h.symm rfl
 |fn f Ei as hl hr=>simp[UV.cells?]at h;exact one (.fn f Ei as hl hr) h.symm rfl
 |yl b x hb=>simp[UV.cells?]at h;exact one (.yl b x hb) h.symm rfl
 |zh=>simp[UV.cells?]at h;exact one .zh h.symm rfl
theorem Og{t:TypeId}{row:List UV}{Vb:List V.AV}{c:Nat}{x:UV}(h:part A t row c=some x)(hr:RL m row Vb):∃a,V.part A t Vb c=some a/\RV m x a:=by
 unfold part at h;unfold V.part;cases ha:V.isAgg A t with
 |none=>simp[ha]at h
 |some b=>
  simp only[ha,da]at h ⊢;cases b with
  |true=>
   simp only[aa]at h ⊢;obtain⟨n,hn,h⟩:=h;split at h
   ·rename_i hle;simp at h;subst h;refine⟨.agg ((Vb.drop c).take n),⟨n,hn,by rw[if_pos (by rw[hr.1];exact hle)]⟩,.agg _ _ ((hr.drop c).take n).1 ((hr.drop c).take n).2⟩
   ·simp at h
  |false=>exact hr.get h
theorem om{row new vp:List UV}{Vb Pal:List V.AV}{c:Nat}(h:gg row c new=some vp)(hr:RL m row Vb)(hn:RL m new Pal):∃nh,V.gg Vb c Pal=some nh/\RL m vp nh/\vp.length=row.length:=by
 unfold gg at h;unfold V.gg;split at h
 ·rename_i hle;simp at h;subst h;refine⟨_,by rw[if_pos (by rw[hn.1,hr.1];exact hle)],?_,by simp;omega⟩;rw[hn.1];exact(hr.take c).append (hn.append (hr.drop _))
 ·simp at h
theorem RL.To{x:UV}{xs:List UV}{as:List V.AV}(h:RL m (x::xs) as):∃a Vn,as=a::Vn/\RV m x a/\RL m xs Vn:=by
 cases as with
 |nil=>have:=h.1;simp at this
 |cons a as=>exact⟨a,as,rfl,h.2 0 x a rfl rfl,by have:=h.1;simpa using this,λi y b k1 k2=>h.2 (i+1) y b (by simpa using k1) (by simpa using k2)⟩
theorem tK:∀(c:CT)(cs:List UV)(x:Ib c)(r:List UV),dec c cs=some (x,r)->∀{as:List V.AV},RL m cs as->∃as1 as2,as=as1++as2/\RL m (enc c x) as1/\RL m r as2
 | .bool,[],x,r,h,as,ha=>by simp[dec]at h
 | .bool,v::cs,x,r,h,as,ha=>by
  cases v<;>simp[dec]at h
  obtain⟨rfl,rfl⟩:=h;obtain⟨a,Vn,rfl,h1,h2⟩:=ha.To;exact⟨[a],Vn,rfl,.cons h1 .nil,h2⟩
 | .int k,[],x,r,h,as,ha=>by simp[dec]at h
 | .int k,v::cs,x,r,h,as,ha=>by
  cases v<;>simp[dec]at h
  obtain⟨rfl,rfl,rfl⟩:=h;obtain⟨a,Vn,rfl,h1,h2⟩:=ha.To;exact⟨[a],Vn,rfl,.cons h1 .nil,h2⟩
 | .str,[],x,r,h,as,ha=>by simp[dec]at h
 | .str,v::cs,x,r,h,as,ha=>by
  cases v<;>simp[dec]at h
  obtain⟨rfl,rfl⟩:=h;obtain⟨a,Vn,rfl,h1,h2⟩:=ha.To;exact⟨[a],Vn,rfl,.cons h1 .nil,h2⟩
 | .slice c,[],x,r,h,as,ha=>by simp[dec]at h
 | .slice c,v::cs,x,r,h,as,ha=>by
  obtain⟨a,Vn,rfl,h1,h2⟩:=ha.To;have fin:∀{x':List (Ib c)},some (x',cs)=some (x,r)->RV m (.lit c x') a->∃as1 as2,a::Vn=as1++as2/\RL m (enc (.slice c) x) as1/\RL m r as2:=λ{x'}he hv=>by
   injection he with he
   injection he with e1 e2
   subst e1;subst e2;exact⟨[a],Vn,rfl,.cons hv .nil,h2⟩
  cases v with
  |lit c' l=>
   have h:(if h:c'=c then some ((h ▸ l:List (Ib c)),cs)else none)=some (x,r):=h;split at h
   ·rename_i hc;subst hc;exact fin h h1
   ·simp at h
  |Xa=>exact fin h (by cases h1;exact .bh c _ (.inl rfl))
  |Ef=>exact fin h (by cases h1;exact .bh c _ (.inr rfl))
  |_=>simp[dec]at h
 | .pair a b,cs,x,r,h,as,ha=>by
  simp only[dec,aa]at h;obtain⟨⟨x1,r1⟩,h1,⟨x2,r2⟩,h2,h⟩:=h;simp at h;obtain⟨rfl,rfl⟩:=h;obtain⟨as1,as2,rfl,k1,k2⟩:=tK a cs x1 r1 h1 ha;obtain⟨as3,as4,rfl,k3,k4⟩:=tK b r1 x2 _ h2 k2;exact⟨as1++as3,as4,(Je ..).symm,k1.append k3,k4⟩
theorem So{c:CT}{cs:List UV}{x:Ib c}(h:uK c cs=some x){as:List V.AV}(ha:RL m cs as):RL m (enc c x) as:=by
 unfold uK at h;split at h
 ·rename_i y hy;simp at h;subst h;obtain⟨as1,as2,rfl,k1,k2⟩:=tK c cs y [] hy ha;have:as2=[]:=by have:=k2.1;simpa using this
  subst this
  simpa using k1
 ·simp at h
theorem jN{c:CT}:∀{rs:List (List UV)}{l:List (Ib c)},j8 c rs=some l->l.length=rs.length/\∀(i:Nat)(r:List UV),rs[i]?=some r->∀{as:List V.AV},RL m r as->RL m (vw c l i) as
 |[],l,h=>by simp[j8]at h;subst h;exact⟨rfl,λi r h=>by simp at h⟩
 |r::rs,l,h=>by
  simp only[j8,aa]at h;obtain⟨x,hx,l',hl,h⟩:=h;simp at h;subst h;obtain⟨h1,h2⟩:=jN hl;refine⟨by simp[h1],λi r' hi as ha=> ?_⟩;cases i with
  |zero=>simp at hi;subst hi;exact So hx ha
  |succ i=>exact h2 i r' (by simpa using hi) ha
end
end Go.U
namespace Go.U
open Go
variable [TB:Uv]
def Mp.Fk(m:Mp)(b:Nat)(f:Nat->Option Nat)(g:Nat->Nat):Mp:={ ι:=λi=>if i=b then f else m.ι i,len:=λi=>if i=b then g else m.len i,top:=b+1 }
def f0(x:Option Nat)(s:Nat):Option Nat:=if s=0 then x else none
theorem jC{x:Option Nat}{s xv:Nat}(h:f0 x s=some xv):s=0/\x=some xv:=by
 unfold f0 at h;split at h
 ·rename_i e;exact⟨e,h⟩
 ·simp at h
def Mp.add(m:Mp)(b:Nat)(x:Option Nat)(n:Nat):Mp:=m.Fk b (f0 x) λ_=>n
theorem Nh(m:Mp)(b:Nat)(f:Nat->Option Nat)(g:Nat->Nat):(m.Fk b f g).ι b=f:=by simp[Mp.Fk]
theorem Vr(m:Mp)(b:Nat)(f:Nat->Option Nat)(g:Nat->Nat):(m.Fk b f g).len b=g:=by simp[Mp.Fk]
theorem Tf(m:Mp){b b':Nat}(f:Nat->Option Nat)(g:Nat->Nat)(h:b'≠b):(m.Fk b f g).ι b'=m.ι b':=by simp[Mp.Fk,h]
theorem Ek(m:Mp){b b':Nat}(f:Nat->Option Nat)(g:Nat->Nat)(h:b'≠b):(m.Fk b f g).len b'=m.len b':=by simp[Mp.Fk,h]
theorem lf(m:Mp)(b:Nat)(x:Option Nat)(n:Nat):(m.add b x n).ι b 0=x:=by rw[Mp.add,Nh];rfl
theorem tn{m:Mp}{b:Nat}{x:Option Nat}{n s xv:Nat}(h:(m.add b x n).ι b s=some xv):s=0/\x=some xv:=by rw[Mp.add,Nh]at h;exact jC h
theorem Xe(m:Mp)(b:Nat)(x:Option Nat)(n:Nat):(m.add b x n).len b 0=n:=by rw[Mp.add,Vr]
theorem Mh(m:Mp){b b':Nat}(x:Option Nat)(n:Nat)(h:b'≠b):(m.add b x n).ι b'=m.ι b':=Tf m _ _ h
theorem gR(m:Mp){b b':Nat}(x:Option Nat)(n:Nat)(h:b'≠b):(m.add b x n).len b'=m.len b':=Ek m _ _ h
section
variable {m:Mp}{H:UH}{Hv zd:V.AH}
theorem Cd(Hv:V.AH)(x x':Nat)(y:V.AB):(V.Qa Hv x y).bl[x']?=if x=x' then(if x<Hv.bl.length then some y else none)else Hv.bl[x']?:=by
 simp only[V.Qa,Cc]
theorem Yv(H:UH)(b b':Nat)(y:UB):(Qa H b y).bl[b']?=if b=b' then(if b<H.bl.length then some y else none)else H.bl[b']?:=by
 simp only[Qa,Cc]
theorem xG(H:UH)(y:UB)(b:Nat):(push H y).bl[b]?=if b<H.bl.length then H.bl[b]? else if b=H.bl.length then some y else none:=by
 simp only[push];rcases Nat.lt_trichotomy b H.bl.length with h|h|h
 ·simp[h,Ja]
 ·subst h;simp
 ·rw[Oa (by omega),if_neg (by omega),if_neg (by omega)];exact Nb (by simp;omega)
theorem uf(H:V.AH)(y:V.AB)(b:Nat):(V.push H y).bl[b]?=if b<H.bl.length then H.bl[b]? else if b=H.bl.length then some y else none:=by
 simp only[V.push];rcases Nat.lt_trichotomy b H.bl.length with h|h|h
 ·simp[h,Ja]
 ·subst h;simp
 ·rw[Oa (by omega),if_neg (by omega),if_neg (by omega)];exact Nb (by simp;omega)
theorem MR.mono{k:KT}{m m':Mp}(hle:m.Le m'):∀{es:List (Zd k×UV)}{ie:List (V.AV×V.AV)},MR k m es ie->MR k m' es ie
 |[],[],_=>trivial
 |(_,_)::_,(_,_)::_,h=>⟨h.1,h.2.1.mono hle,h.2.2.1,h.2.2.2.mono hle⟩
 |[],_::_,h=>h.elim
 |_::_,[],h=>h.elim
theorem Jm.keep{m m':Mp}{o:Option Nat}{c:CT}{l:List (Ib c)}{a:V.AV}(h:Jm m Hv o c l a)(hf:∀x y,closed 8 x=true->RV m x y->RV m' x y)(Ec:∀x,o=some x->zd.bl[x]?=Hv.bl[x]?):Jm m' zd o c l a:=by
 rcases h with⟨h1,h2,h3⟩|⟨y,rows,ty,h1,h2,h3,h4,h5,h6,h7⟩
 ·exact .inl ⟨h1,h2,h3⟩
 ·exact .inr ⟨y,rows,ty,h1,h2,by rw[Ec y h1];exact h3,h4,h5,h6,λi row c y a k0 k1 k2 k3=>hf y a ((h5 i k0).2 y (Eb k2)) (h7 i row c y a k0 k1 k2 k3)⟩
theorem RB.keep{m m':Mp}{b:Nat}{y:UB}(h:RB m Hv b y)(hle:m.Le m')(oq:m'.ι b=m.ι b)(hl:m'.len b=m.len b)(Ec:Me y=true->∀{s}x,m.ι b s=some x->zd.bl[x]?=Hv.bl[x]?):RB m' zd b y:=by
 cases y with
 |dead=>trivial
 |Ee row=>
  obtain⟨x,Vb,ty,h1,h2,h3⟩:=h;exact⟨x,Vb,ty,by rw[oq];exact h1,by rw[Ec rfl x h1];exact h2,h3.mono hle⟩
 |Un q=>
  obtain⟨x,p,q',h1,h2,h3,h4,h5⟩:=h;exact⟨x,p,q',by rw[oq];exact h1,by rw[Ec rfl x h1];exact h2,h3,h4.mono hle,h5⟩
 |Fq s=>
  obtain⟨h1,h2⟩:=h;refine⟨by rw[hl];exact h1,?_⟩;rcases h2 with⟨h2,h3⟩|⟨x,h2,h3,h4⟩
  ·exact .inl ⟨h2,by rw[oq];exact h3⟩
  ·exact .inr ⟨x,by rw[oq];exact h2,by rw[Ec rfl x h2];exact h3,h4⟩
 |cells c l=>
  obtain⟨h1,h2⟩:=h;refine⟨by rw[hl];exact h1,?_⟩;rcases h2 with⟨h2,h3⟩|⟨x,rows,ty,h2,h3,h4,h5,h6,h7⟩
  ·exact .inl ⟨h2,by rw[oq];exact h3⟩
  ·exact .inr ⟨x,rows,ty,by rw[oq];exact h2,by rw[Ec rfl x h2];exact h3,h4,h5,h6,λi row c y a k0 k1 k2 k3=>(h7 i row c y a k0 k1 k2 k3).mono hle⟩
 |deep c l=>
  obtain⟨h1,h0,h2⟩:=h;refine⟨by rw[hl];exact h1,λr=>by rw[hl,oq];exact h0 r,?_⟩;rcases h2 with⟨h2,h3⟩|⟨x,rows,ty,h2,h3,h4,h5⟩
  ·exact .inl ⟨h2,by rw[oq];exact h3⟩
  ·refine .inr ⟨x,rows,ty,by rw[oq];exact h2,by rw[Ec rfl x h2];exact h3,h4,λr hr=> ?_⟩;obtain⟨a,k1,k2⟩:=h5 r hr;rw[oq];exact⟨a,k1,k2.keep (λ_ _ _ h=>h.mono hle) (λx hx=>Ec rfl x hx)⟩
 |Jg k es=>
  obtain⟨x,ie,h1,h2,h3⟩:=h;exact⟨x,ie,by rw[oq];exact h1,by rw[Ec rfl x h1];exact h2,h3.mono hle⟩
 |Pe k g c l=>
  obtain⟨x,ie,h1,h2,h3⟩:=h;exact⟨x,ie,by rw[oq];exact h1,by rw[Ec rfl x h1];exact h2,h3.mono hle⟩
 |loop id env st pe=>
  obtain⟨x,On,h1,h2,h3⟩:=h;refine⟨x,On,by rw[oq];exact h1,by rw[Ec rfl x h1];exact h2,λt=> ?_⟩;have:=h3 t
  revert this
  split
  ·exact λh=>h.mono hle
  ·exact λh=>h
theorem Qg{b b':Nat}{y:UB}(h:live (Qa H b y) b'):(b'=b/\Me y=true)\/(b'≠b/\live H b'):=by
 obtain⟨x,hx,hl⟩:=h;rw[Yv]at hx;split at hx
 ·rename_i e;split at hx
  ·simp at hx;subst hx;exact .inl ⟨e.symm,hl⟩
  ·simp at hx
 ·rename_i e;exact .inr ⟨λe'=>e e'.symm,x,hx,hl⟩
theorem RH.ual(h:RH m H Hv){b x s0:Nat}{y:UB}{yv:V.AB}(hb:live H b)(hx:m.ι b s0=some x)(hy:RB m (V.Qa Hv x yv) b y):RH m (Qa H b y) (V.Qa Hv x yv)/\gm m.top m Hv m (V.Qa Hv x yv):=by
 refine⟨⟨λb' s x' Wd=> ?_,λb' y' Ze=> ?_,λb1 b2 s s' x' h1 h2 e1 e2=> ?_,h.wm,by simpa[V.Qa]using h.top,by simpa[Qa]using h.len⟩,⟨.refl (ya _),λx' Eg hn=> ?_,λb' s x' Wd=> .inl ⟨b',s,Wd⟩,by simp[V.Qa],rfl⟩⟩
 ·have:=h.Ff b' x' Wd;simpa[Qa,V.Qa]using this
 ·rw[Yv]at Ze;split at Ze
  ·rename_i e;subst e;split at Ze
   ·simp at Ze;subst Ze;exact hy
   ·simp at Ze
  ·rename_i e;refine(h.Kf b' y' Ze).keep (.refl m) rfl rfl λhl s x' Eg=> ?_
   rw[Cd,if_neg]
   rintro rfl
   exact e (h.inj b b' x hb ⟨y',Ze,hl⟩ hx Eg)
 ·have k1:live H b1:=by rcases Qg h1 with⟨rfl,_⟩|⟨_,h⟩<;>assumption
  have k2:live H b2:=by rcases Qg h2 with⟨rfl,_⟩|⟨_,h⟩<;>assumption
  exact h.Ao b1 b2 x' k1 k2 e1 e2
 ·rw[Cd,if_neg (λe=>hn b s0 (by rw[<- e];exact hx))]
theorem RH.set(h:RH m H Hv){b x:Nat}{y:UB}{yv:V.AB}(hb:live H b)(hx:m.ι b 0=some x)(hy:RB m (V.Qa Hv x yv) b y):RH m (Qa H b y) (V.Qa Hv x yv)/\gm m.top m Hv m (V.Qa Hv x yv):=h.ual hb hx hy
theorem RH.kill(h:RH m H Hv)(b:Nat):RH m (Qa H b .dead) Hv:=by
 refine⟨λb' s x' Wd=>by simpa[Qa]using h.Ff b' x' Wd,λb' y' Ze=> ?_,λb1 b2 s s' x' h1 h2 e1 e2=> ?_,h.wm,h.top,by simpa[Qa]using h.len⟩
 ·rw[Yv]at Ze;split at Ze
  ·split at Ze
   ·simp at Ze;subst Ze;trivial
   ·simp at Ze
  ·exact h.Kf b' y' Ze
 ·have k:∀{b'},live (Qa H b .dead) b'->live H b':=λh=>by rcases Qg h with⟨_,h'⟩|⟨_,h⟩;simp[Me]at h';exact h
  exact h.Ao b1 b2 x' (k h1) (k h2) e1 e2
theorem RH.other(h:RH m H Hv){x:Nat}(hx:∀b s,live H b->m.ι b s≠some x)(yv:V.AB):RH m H (V.Qa Hv x yv):=by
 refine⟨λb' s x' Wd=>by simpa[V.Qa]using h.Ff b' x' Wd,λb' y' Ze=> ?_,h.Ao,h.wm,by simpa[V.Qa]using h.top,h.len⟩;refine(h.Kf b' y' Ze).keep (.refl m) rfl rfl λhl s x' Eg=> ?_
 rw[Cd,if_neg]
 rintro rfl
 exact hx b' s ⟨y',Ze,hl⟩ Eg
theorem RH.alike(h:RH m H Hv)(Ec:∀b{s}x,live H b->m.ι b s=some x->zd.bl[x]?=Hv.bl[x]?)(hlen:zd.bl.length=Hv.bl.length)(Th:zd.wm=Hv.wm):RH m H zd:=by
 refine⟨λb' s x' Wd=>by rw[hlen];exact h.Ff b' x' Wd,λb' y' Ze=> ?_,h.Ao,by rw[Th];exact h.wm,by rw[hlen,Th];exact h.top,h.len⟩;exact(h.Kf b' y' Ze).keep (.refl m) rfl rfl λhl s x' Eg=>Ec b' x' ⟨y',Ze,hl⟩ Eg
theorem MU(h:RH m H Hv)(f:Nat->Option Nat)(g:Nat->Nat):m.Le (m.Fk H.bl.length f g):=⟨λb s x' hb=>by
 have:=(h.Ff b x' hb).1;rw[Tf m f g (by omega),Ek m f g (by omega)];exact⟨hb,rfl⟩,by have:=h.len;simp[Mp.Fk];omega,λb hb=>by have:=h.len;rw[Ek m f g (by omega)]⟩
theorem iR(h:RH m H Hv)(x:Option Nat)(n:Nat):m.Le (m.add H.bl.length x n):=MU h _ _
theorem wN(h:RH m H Hv)(f:Nat->Option Nat)(g:Nat->Nat):PX m.top m (m.Fk H.bl.length f g):=⟨by simp[Mp.Fk];have:=h.len;omega,λb hb=>by
 have:=h.len;exact⟨Tf m f g (by omega),Ek m f g (by omega)⟩⟩
theorem Gj(h:RH m H Hv)(x:Option Nat)(n:Nat):PX m.top m (m.add H.bl.length x n):=wN h _ _
theorem RH.jac(h:RH m H Hv){y:UB}{f:Nat->Option Nat}{g:Nat->Nat}(Ec:∀b{s}x',live H b->m.ι b s=some x'->zd.bl[x']?=Hv.bl[x']?)(hlen:Hv.bl.length<=zd.bl.length)(Th:zd.wm=Hv.wm)
  (hx:∀s xv,f s=some xv->xv<zd.bl.length/\Hv.wm<=xv/\∀b s',live H b->m.ι b s'≠some xv) (hfi:∀s s' xv,f s=some xv->f s'=some xv->s=s') (hy:RB (m.Fk H.bl.length f g) zd H.bl.length y):
  RH (m.Fk H.bl.length f g) (U.push H y) zd/\m.Le (m.Fk H.bl.length f g):=by
 have hle:=MU h f g;have LO:∀{b},live (U.push H y) b->b=H.bl.length\/live H b:=λ{b}⟨y',Ze,hl⟩=>by
  rw[xG]at Ze;split at Ze
  ·exact .inr ⟨y',Ze,hl⟩
  ·split at Ze
   ·rename_i e;exact .inl e
   ·simp at Ze
 have td:∀{b},live H b->b≠H.bl.length:=λ{b}⟨y',Ze,_⟩=>by have:=Za Ze;omega
 refine⟨⟨λb s x' hb=> ?_,λb y' Ze=> ?_,λb1 b2 s s' x' h1 h2 e1 e2=> ?_,λb s x' hb hw=> ?_,by rw[Th];exact Db h.top hlen,by simp[Mp.Fk,U.push]⟩,hle⟩
 ·by_cases e:b=H.bl.length
  ·subst e;rw[Nh]at hb;exact⟨by simp[U.push],(hx s x' hb).1⟩
  ·rw[Tf m f g e]at hb;have:=h.Ff b x' hb;exact⟨by simp[U.push];omega,by omega⟩
 ·rw[xG]at Ze;split at Ze
  ·rename_i Mc;exact(h.Kf b y' Ze).keep hle (Tf m f g (by omega)) (Ek m f g (by omega)) λhl s x' Eg=>Ec b x' ⟨y',Ze,hl⟩ Eg
  ·split at Ze
   ·rename_i e;simp at Ze;subst Ze;subst e;exact hy
   ·simp at Ze
 ·rcases LO h1 with rfl|l1<;>rcases LO h2 with rfl|l2
  ·rw[Nh]at e1 e2;exact⟨rfl,hfi s s' x' e1 e2⟩
  ·rw[Nh]at e1;rw[Tf m f g (td l2)]at e2;exact absurd e2 ((hx s x' e1).2.2 b2 s' l2)
  ·rw[Nh]at e2;rw[Tf m f g (td l1)]at e1;exact absurd e1 ((hx s' x' e2).2.2 b1 s l1)
  ·rw[Tf m f g (td l1)]at e1;rw[Tf m f g (td l2)]at e2;exact h.Ao b1 b2 x' l1 l2 e1 e2
 ·rw[Th];by_cases e:b=H.bl.length
  ·subst e;rw[Nh]at hb;exact(hx s x' hb).2.1
  ·rw[Tf m f g e]at hb;exact h.wm b x' hb hw
theorem RH.push(h:RH m H Hv){y:UB}{x:Option Nat}{n:Nat}(Ec:∀b{s}x',live H b->m.ι b s=some x'->zd.bl[x']?=Hv.bl[x']?)(hlen:Hv.bl.length<=zd.bl.length)(Th:zd.wm=Hv.wm)
  (hx:∀xv,x=some xv->xv<zd.bl.length/\Hv.wm<=xv/\∀b s,live H b->m.ι b s≠some xv) (hy:RB (m.add H.bl.length x n) zd H.bl.length y):
  RH (m.add H.bl.length x n) (U.push H y) zd/\m.Le (m.add H.bl.length x n):=
 h.jac Ec hlen Th (λs xv e=>hx xv (jC e).2) (λs s' xv e e'=>by rw[(jC e).1,(jC e').1]) hy
theorem RH.new(h:RH m H Hv){y:UB}{yv:V.AB}{n:Nat}(hy:RB (m.add H.bl.length (some Hv.bl.length) n) (V.push Hv yv) H.bl.length y):
  RH (m.add H.bl.length (some Hv.bl.length) n) (U.push H y) (V.push Hv yv)/\m.Le (m.add H.bl.length (some Hv.bl.length) n)/\gm m.top m Hv (m.add H.bl.length (some Hv.bl.length) n) (V.push Hv yv):=by
 have h1:=h.push (zd:=V.push Hv yv) (y:=y) (x:=some Hv.bl.length) (n:=n) (λb s x' hl hb=>by rw[uf,if_pos (h.Ff b x' hb).2]) (by simp[V.push]) rfl
  (λxv e=>by
   simp at e;subst e;exact⟨by simp[V.push],h.top,λb s _ hb=>by have:=(h.Ff b _ hb).2;omega⟩) hy
 refine⟨h1.1,h1.2,⟨Gj h _ _,λx hx _=>by rw[uf,if_pos hx],λb s x hb=> ?_,by simp[V.push],rfl⟩⟩;by_cases e:b=H.bl.length
 ·subst e;obtain⟨_,e⟩:=tn hb;simp at e;subst e;exact .inr (ya _)
 ·rw[Mh _ _ _ e]at hb;exact .inl ⟨b,s,hb⟩
theorem F8{m:Mp}{b0:Nat}{f:Nat->Option Nat}{g:Nat->Nat}{N:Nat}(hf:∀s x,f s=some x->(∃b1 s1,m.ι b1 s1=some x)\/N<=x)(b:Nat){s:Nat}(x:Nat)(hb:(m.Fk b0 f g).ι b s=some x):(∃b1 s1,m.ι b1 s1=some x)\/N<=x:=by
 by_cases e:b=b0
 ·subst e;rw[Nh]at hb;exact hf s x hb
 ·rw[Tf _ _ _ e]at hb;exact .inl ⟨b,s,hb⟩
def HH(x:Nat)(F:Nat->Option Nat):Nat->Option Nat
 |0=>some x
 |r+1=>F r
def Eae{c:CT}(L:List (List (Ib c))):Nat->Nat
 |0=>L.length
 |r+1=>(L.getD r []).length
theorem RH.PR(hh:RH m H Hv){c:CT}{L:List (List (Ib c))}{rows:List (List V.AV)}{ty:Option (TypeId×Nat)}{F:Nat->Option Nat}(aD:rows.length=L.length)
  (hF:∀r x,F r=some x->(∃b s,m.ι b s=some x)/\Hv.wm<=x/\∀b s,live H b->m.ι b s≠some x) (hFi:∀r r' x,F r=some x->F r'=some x->r=r') (hFo:∀r,L.length<=r->F r=none)
  (De:∀r,r<L.length->∃a,rows[r]?=some [a]/\Jm m Hv (F r) c (L.getD r []) a):
  ∃m',RH m' (U.push H (.deep c L)) (V.push Hv (.cells rows 1 ty))/\RV m' (.all H.bl.length) (.sl Hv.bl.length 0 L.length)/\m.Le m'/\gm m.top m Hv m' (V.push Hv (.cells rows 1 ty)):=by
 have Mc:∀r x,F r=some x->x<Hv.bl.length:=λr x h=>by
  obtain⟨b,s,h1⟩:=(hF r x h).1;exact(hh.Ff b x h1).2
 have h1:=hh.jac (zd:=V.push Hv (.cells rows 1 ty)) (y:= .deep c L) (f:=HH Hv.bl.length F) (g:=Eae L) (λb s x' hl hb=>by rw[uf,if_pos (hh.Ff b x' hb).2]) (by simp[V.push]) rfl
  (λs xv e=>by
   cases s with
   |zero=>
    simp[HH]at e;subst e;exact⟨by simp[V.push],hh.top,λb s _ hb=>by have:=(hh.Ff b _ hb).2;omega⟩
   |succ r=>
    have e:F r=some xv:=e;exact⟨by have:=Mc r xv e;simp[V.push];omega,(hF r xv e).2.1,(hF r xv e).2.2⟩)
  (λs s' xv e e'=>by
   cases s with
   |zero=>
    cases s' with
    |zero=>rfl
    |succ r'=>
     have e':F r'=some xv:=e';have:=Mc r' xv e';simp[HH]at e;omega
   |succ r=>
    have e:F r=some xv:=e;cases s' with
    |zero=>have:=Mc r xv e;simp[HH]at e';omega
    |succ r'=>
     have e':F r'=some xv:=e';rw[hFi r r' xv e e'])
  (by
   refine⟨by rw[Vr];rfl,λr=>⟨by rw[Vr];rfl,λhr=>by rw[Nh];exact hFo r hr⟩,.inr ⟨Hv.bl.length,rows,ty,by rw[Nh];rfl,by rw[uf,if_neg (by omega),if_pos rfl],by omega,λr hr=> ?_⟩⟩;obtain⟨a,k1,k2⟩:=De r hr;refine⟨a,k1,?_⟩;rw[Nh];exact k2.keep (λx y hc h=>h.free _ 8 hc) λx hx=>by rw[uf,if_pos (Mc r x hx)])
 refine⟨_,h1.1,?_,h1.2,⟨wN hh _ _,λx hx _=>by rw[uf,if_pos hx],λb s x hb=>F8 (λs x e=> ?_) b x hb,by simp[V.push],rfl⟩⟩
 ·have:=RV.all (m:=m.Fk H.bl.length (HH Hv.bl.length F) (Eae L)) H.bl.length Hv.bl.length (by rw[Nh];rfl);rw[Vr]at this;exact this
 ·cases s with
  |zero=>simp[HH]at e;subst e;exact .inr (ya _)
  |succ r=>exact .inl (hF r x e).1
end
end Go.U
namespace Go.U
open Go
variable [TB:Uv]
section
variable {A:V.Oi}{Na:Nat->Option (List UV)}{m:Mp}{φ:Nat->Option Nat}{s:St}{sv:V.S}{X:Type}{out:X}
theorem Uo.row{z n:Nat}{f:Nat->List UV}{rows:List (List V.AV)}(h:Uo m z n f rows)(hn:n<=rows.length){i:Nat}(hi:i<n):∃row,rows[i]?=some row/\RL m (f i) row/\row.length=z:=by
 have hr:=Da (l:=rows) (i:=i) (by omega);have hz:=h.2.1 i _ hi hr;exact⟨_,hr,⟨by rw[hz,(h.1 i hi).1],λc x a h1 h2=>h.2.2 i _ c x a hi hr h1 h2⟩,hz⟩
theorem jd(h:RH m s.H sv.H){b:Nat}{c:CT}{l:List (Ib c)}(hb:s.H.bl[b]?=some (.cells c l)):m.len b 0=l.length/\∀x,m.ι b 0=some x->∃rows ty,sv.H.bl[x]?=some (.cells rows (width c) ty)/\l.length<=rows.length/\Uo m (width c) l.length (vw c l) rows:=by
 obtain⟨h1,h2⟩:=h.Kf b _ hb;refine⟨h1,λx hx=> ?_⟩;rcases h2 with⟨_,h3⟩|⟨x',rows,ty,h3,h4,h5,h6⟩
 ·rw[hx]at h3;simp at h3
 ·rw[hx]at h3;simp at h3;subst h3;exact⟨rows,ty,h4,h5,h6⟩
theorem Ie(h:RH m s.H sv.H){b:Nat}{c:CT}{l:List (List (Ib c))}(hb:s.H.bl[b]?=some (.deep c l)):m.len b 0=l.length/\(∀r,m.len b (r+1)=(l.getD r []).length)/\∀x,m.ι b 0=some x->∃rows ty,sv.H.bl[x]?=some (.cells rows 1 ty)/\l.length<=rows.length/\
  ∀r,r<l.length->∃a,rows[r]?=some [a]/\Jm m sv.H (m.ι b (r+1)) c (l.getD r []) a:=by
 obtain⟨h1,h0,h2⟩:=h.Kf b _ hb;refine⟨h1,λr=>(h0 r).1,λx hx=> ?_⟩;rcases h2 with⟨_,h3⟩|⟨x',rows,ty,h3,h4,h5,h6⟩
 ·rw[hx]at h3;simp at h3
 ·rw[hx]at h3;simp at h3;subst h3;exact⟨rows,ty,h4,h5,h6⟩
theorem gy(h:RH m s.H sv.H){b r y:Nat}{c:CT}{l:List (List (Ib c))}(hb:s.H.bl[b]?=some (.deep c l))(hy:m.ι b (r+1)=some y):r<l.length/\∃rows ty,sv.H.bl[y]?=some (.cells rows (width c) ty)/\(l.getD r []).length<=rows.length/\Uo m (width c) (l.getD r []).length (vw c (l.getD r [])) rows:=by
 obtain⟨h1,h0,h2⟩:=h.Kf b _ hb;have hr:r<l.length:=by
  rcases dc r l.length with h|h
  ·exact h
  ·rw[(h0 r).2 h]at hy;simp at hy
 refine⟨hr,?_⟩;rcases h2 with⟨h3,_⟩|⟨x',rows,ty,h3,h4,h5,h6⟩
 ·omega
 ·obtain⟨a,k1,k2⟩:=h6 r hr;rcases k2 with⟨_,k3,_⟩|⟨y',Ke,ty',k3,k4,k5,k6,k7⟩
  ·rw[hy]at k3;simp at k3
  ·rw[hy]at k3;simp at k3;subst k3;exact⟨Ke,ty',k5,k6,k7⟩
theorem tY{c:CT}{l:List (Ib c)}{r:Nat}{x:Ib c}{i:Nat}(hr:r<l.length):vw c (l.set r x) i=if i=r then enc c x else vw c l i:=by
 simp only[vw,Fb,Cc];split
 ·rename_i e;subst e;simp[hr]
 ·rename_i e;rw[if_neg (λe'=>e e'.symm)]
theorem KG(h:RH m s.H sv.H){b x:Nat}{row:List UV}(hb:s.H.bl[b]?=some (.Ee row))(hx:m.ι b 0=some x):∃Vb ty,sv.H.bl[x]?=some (.cells [Vb] Vb.length ty)/\RL m row Vb:=by
 obtain⟨x',Vb,ty,h1,h2,h3⟩:=h.Kf b _ hb;rw[hx]at h1;simp at h1;subst h1;exact⟨Vb,ty,h2,h3⟩
theorem Ew{t:TypeId}{p:US}{pv:V.SV}{x:UV}(h:load A s t p=some x)(hh:RH m s.H sv.H)(hf:RF m φ s.F sv.F)(hp:RS m φ p pv):∃a,V.load A sv t pv=some a/\RV m x a:=by
 unfold load at h;split at h
 ·rename_i i c;cases pv with
  |v a=>exact hp.elim
  |loc j c'=>
   obtain⟨h1,rfl⟩:=hp;simp only[aa]at h;obtain⟨row,hr,h⟩:=h;obtain⟨j',Vb,k1,k2,k3⟩:=hf.row i row hr;rw[h1]at k1;simp at k1;subst k1;obtain⟨a,k4,k5⟩:=Og h k3;exact⟨a,by simp[V.load,k2,k4],k5⟩
 ·rename_i b c;obtain⟨a,rfl,hv⟩:=hp.val (by simp);cases hv with
  |ptr _ _ x hx=>
   split at h
   ·rename_i row hb;obtain⟨Vb,ty,k1,k2⟩:=KG hh hb hx;obtain⟨a,k4,k5⟩:=Og h k2;exact⟨a,by simp[V.load,V.rowAt,k1,k4],k5⟩
   ·simp at h
 ·rename_i b r c;obtain⟨a,rfl,hv⟩:=hp.val (by simp);cases hv with
  |Lm _ _ _ x hx hr=>
   split at h
   ·rename_i ct l hb;obtain⟨k0,k1⟩:=jd hh hb;obtain⟨rows,ty,k2,k3,k4⟩:=k1 x hx;obtain⟨row,k5,k6,_⟩:=k4.row k3 (i:=r) (by rw[<- k0];exact hr);obtain⟨a,k7,k8⟩:=Og h k6;exact⟨a,by simp[V.load,V.rowAt,k2,k5,k7],k8⟩
   ·rename_i ct l hb;obtain⟨k0,k1,k2⟩:=Ie hh hb;obtain⟨rows,ty,k3,k4,k5⟩:=k2 x hx;have aD:r<l.length:=by rw[<- k0];exact hr
    obtain⟨a0,k6,k7⟩:=k5 r aD;have hd:RV m (.Rt b r) a0:=by
     rcases k7 with⟨j1,j2,j3⟩|⟨y,Ke,ty',j1,rfl,_⟩
     ·exact .Dv b r a0 (by rw[hh.len];exact Za hb) (by rw[k1 r];exact j1) j3
     ·rw[<- k1 r];exact .Rt b r y j1
    obtain⟨a,k8,k9⟩:=Og h (RL.cons hd RL.nil);exact⟨a,by simp[V.load,V.rowAt,k3,k6,k8],k9⟩
   ·simp at h
 ·rename_i b r j c;obtain⟨a,rfl,hv⟩:=hp.val (by simp);cases hv with
  |Dq _ _ _ _ x hx hj=>
   split at h
   ·rename_i ct l hb;obtain⟨k0,k1,_⟩:=Ie hh hb;obtain⟨aD,rows,ty,k2,k3,k4⟩:=gy hh hb hx;obtain⟨row,k5,k6,_⟩:=k4.row k3 (i:=j) (by rw[<- k1 r];exact hj);obtain⟨a,k7,k8⟩:=Og h k6;exact⟨a,by simp[V.load,V.rowAt,k2,k5,k7],k8⟩
   ·simp at h
 ·rename_i row;obtain⟨a,rfl,hv⟩:=hp.val (by simp);cases hv with
  |ee _ Vb hl hc hr=>
   obtain⟨a,k1,k2⟩:=Og h ⟨hl,hr⟩;exact⟨a,by simp[V.load,k1],k2⟩
 ·simp at h
theorem RF.set{F:List (List UV)}{Fv:List (List V.AV)}(h:RF m φ F Fv){i j:Nat}{row:List UV}{Vb:List V.AV}(KK:φ i=some j)(hr:RL m row Vb):RF m φ (F.set i row) (Fv.set j Vb):=by
 refine⟨λa b hab=>by simpa using h.Ff a b hab,λa r ha=> ?_,h.inj⟩;rw[Cc]at ha;split at ha
 ·rename_i e;subst e;split at ha
  ·simp at ha;subst ha;refine⟨j,Vb,KK,?_,hr⟩;rw[Cc,if_pos rfl,if_pos (h.Ff _ _ KK).2]
  ·simp at ha
 ·rename_i e;obtain⟨b,r',k1,k2,k3⟩:=h.row a r ha;refine⟨b,r',k1,?_,k3⟩;rw[Cc,if_neg]
  ·exact k2
  ·rintro rfl;exact e (h.inj i a _ KK k1)
theorem RF.mono{m':Mp}{F:List (List UV)}{Fv:List (List V.AV)}(h:RF m φ F Fv)(hle:m.Le m'):RF m' φ F Fv:=
 ⟨h.Ff,λi row hi=>let⟨j,Vb,h1,h2,h3⟩:=h.row i row hi;⟨j,Vb,h1,h2,h3.mono hle⟩,h.inj⟩
theorem ZU{t:TypeId}{p:US}{pv:V.SV}{y:UV}{a:V.AV}{s':St}(h:store A s t p y=some s')(hh:RH m s.H sv.H)(hf:RF m φ s.F sv.F)(hp:RS m φ p pv)(hy:RV m y a):
  ∃bf,V.store A sv t pv a=some bf/\RH m s'.H bf.H/\RF m φ s'.F bf.F/\gm m.top m sv.H m bf.H/\s'.e=s.e/\bf.e=sv.e/\s'.base=s.base:=by
 simp only[store,gH,aa]at h;obtain⟨cs,Kj,n,hn,h⟩:=h;split at h
 case isFalse=>simp at h
 rename_i hlen;obtain⟨Ei,q1,q2⟩:=Tt Kj hy;unfold V.store;simp only[q1,hn,da];rw[if_pos (by rw[q2.1];exact hlen)];split at h
 ·rename_i i c;cases pv with
  |v a=>exact hp.elim
  |loc j c'=>
   obtain⟨h1,rfl⟩:=hp;simp only[aa]at h;obtain⟨row,hr,vp,qg,h⟩:=h;simp at h;subst h;obtain⟨j',Vb,k1,k2,k3⟩:=hf.row i row hr;rw[h1]at k1;simp at k1;subst k1;obtain⟨nh,k4,k5,_⟩:=om qg k3 q2;exact⟨{ sv with F:=sv.F.set j nh },by simp[k2,k4],hh,hf.set h1 k5,.refl _ (ya _),rfl,rfl,rfl⟩
 ·rename_i b c;obtain⟨a',rfl,hv⟩:=hp.val (by simp);cases hv with
  |ptr _ _ x hx=>
   split at h
   case h_2=>simp at h
   rename_i row hb;split at h
   case isFalse=>simp at h
   rename_i Th;simp only[aa]at h;obtain⟨vp,qg,h⟩:=h;simp at h;subst h;obtain⟨Vb,ty,k1,k2⟩:=KG hh hb hx;obtain⟨nh,k4,k5,k6⟩:=om qg k2 q2;have hl:live s.H b:=⟨_,hb,rfl⟩;have hw:=hh.wm b x hx Th;have mS:nh.length=Vb.length:=by rw[k5.1,k6,k2.1]
   have Uk:=hh.set (y:= .Ee vp) (yv:= .cells [nh] nh.length ty) hl hx ⟨x,nh,ty,hx,by rw[Cd,if_pos rfl,if_pos (hh.Ff b x hx).2],k5⟩;refine⟨{ sv with H:=V.Qa sv.H x (.cells [nh] nh.length ty) },?_,Uk.1,hf,Uk.2,rfl,rfl,rfl⟩;simp[k1,hw,k4,mS]
 ·rename_i b r c;obtain⟨a',rfl,hv⟩:=hp.val (by simp);cases hv with
  |Lm _ _ _ x hx aD=>
   split at h
   case h_2=>simp at h
   rename_i ct l hb;split at h
   case isFalse=>simp at h
   rename_i Th;simp only[aa]at h;obtain⟨vp,qg,xr,kag,h⟩:=h;simp at h;subst h;obtain⟨k0,k1⟩:=jd hh hb;obtain⟨rows,ty,k2,k3,k4⟩:=k1 x hx;have hrn:r<l.length:=by rw[<- k0];exact aD
   have Gl:r<rows.length:=by omega
   obtain⟨Vb,k5,k6,k7⟩:=k4.row k3 hrn;obtain⟨nh,k8,k9,k10⟩:=om qg k6 q2;have k9':=So kag k9;have hl:live s.H b:=⟨_,hb,rfl⟩;have hw:=hh.wm b x hx Th;have Uk:=hh.set (y:= .cells ct (l.set r xr)) (yv:= .cells (rows.set r nh) (width ct) ty) hl hx (by
    refine⟨by rw[Wa];exact k0,.inr ⟨x,rows.set r nh,ty,hx,by rw[Cd,if_pos rfl,if_pos (hh.Ff b x hx).2],by simpa using k3,λi hi=>⟨kg _ _ _,Te _ _ _⟩,λi row Zt hi=> ?_,λi row c' y' a' Zt hi h1 h2=> ?_⟩⟩
    ·rw[Wa]at Zt;rw[Cc]at hi;split at hi
     ·simp[Gl]at hi;subst hi;rw[k9'.1,Zj]
     ·exact k4.2.1 i row Zt hi
    ·rw[Wa]at Zt;rw[Cc]at hi;rw[tY hrn]at h1;split at hi
     ·rename_i e;subst e;rw[if_pos rfl]at h1;simp[Gl]at hi;subst hi;exact k9'.2 c' y' a' h1 h2
     ·rename_i e;rw[if_neg (λe'=>e e'.symm)]at h1;exact k4.2.2 i row c' y' a' Zt hi h1 h2)
   refine⟨{ sv with H:=V.Qa sv.H x (.cells (rows.set r nh) (width ct) ty) },?_,Uk.1,hf,Uk.2,rfl,rfl,rfl⟩;simp[k2,hw,k5,k8]
 ·rename_i b r j c;obtain⟨a',rfl,hv⟩:=hp.val (by simp);cases hv with
  |Dq _ _ _ _ x hx hjl=>
   split at h
   case h_2=>simp at h
   rename_i ct l hb;split at h
   case isFalse=>simp at h
   rename_i Th;simp only[aa]at h;obtain⟨vp,qg,xr,kag,h⟩:=h;simp at h;subst h;obtain⟨k0,k1,kx⟩:=Ie hh hb;obtain⟨aD,rows,ty,k2,k3,k4⟩:=gy hh hb hx;have hjn:j<(l.getD r []).length:=by rw[<- k1 r];exact hjl
   have hjr:j<rows.length:=by omega
   obtain⟨Vb,k5,k6,k7⟩:=k4.row k3 hjn;obtain⟨nh,k8,k9,k10⟩:=om qg k6 q2;have k9':=So kag k9;have hl:live s.H b:=⟨_,hb,rfl⟩;have hw:=hh.wm b x hx Th;have hgd:∀i,(l.set r ((l.getD r []).set j xr)).getD i []=if i=r then(l.getD r []).set j xr else l.getD i []:=λi=>by
    simp only[Fb,Cc];by_cases e:r=i
    ·subst e;simp[aD]
    ·rw[if_neg e,if_neg (λe'=>e e'.symm)]
   have Uk:=hh.ual (y:= .deep ct (l.set r ((l.getD r []).set j xr))) (yv:= .cells (rows.set j nh) (width ct) ty) hl hx (by
    obtain⟨b1,b0,b2⟩:=hh.Kf b _ hb;refine⟨by rw[Wa];exact b1,λi=>⟨?_,by rw[Wa];exact(b0 i).2⟩,?_⟩
    ·rw[hgd];split
     ·rename_i e;subst e;rw[Wa];exact(b0 i).1
     ·exact(b0 i).1
    rcases b2 with⟨b3,_⟩|⟨x',rws,ty',b3,b4,b5,b6⟩
    ·omega
    have BO:x≠x':=λe=>by subst e;have:=(hh.Ao b b x hl hl hx b3).2;omega
    refine .inr ⟨x',rws,ty',b3,by rw[Cd,if_neg BO];exact b4,by rw[Wa];exact b5,λi hi=> ?_⟩;rw[Wa]at hi;obtain⟨a,c1,c2⟩:=b6 i hi;refine⟨a,c1,?_⟩;rw[hgd];split
    ·rename_i e;subst e;rcases c2 with⟨c3,_⟩|⟨y,rw0,AF,c3,c4,c5,c6,c7⟩
     ·omega
     rw[hx]at c3;simp at c3;subst c3;rw[k2]at c5;simp at c5;obtain⟨rfl,rfl⟩:=c5;refine .inr ⟨x,rows.set j nh,ty,hx,by rw[Wa];exact c4,by rw[Cd,if_pos rfl,if_pos (hh.Ff b x hx).2],by simpa using c6,λi hi=>⟨kg _ _ _,Te _ _ _⟩,λi row Zt hi=> ?_,λi row c' y' a' Zt hi h1 h2=> ?_⟩
     ·rw[Wa]at Zt;rw[Cc]at hi;split at hi
      ·simp[hjr]at hi;subst hi;rw[k9'.1,Zj]
      ·exact c7.2.1 i row Zt hi
     ·rw[Wa]at Zt;rw[Cc]at hi;rw[tY hjn]at h1;split at hi
      ·rename_i e;subst e;rw[if_pos rfl]at h1;simp[hjr]at hi;subst hi;exact k9'.2 c' y' a' h1 h2
      ·rename_i e;rw[if_neg (λe'=>e e'.symm)]at h1;exact c7.2.2 i row c' y' a' Zt hi h1 h2
    ·rename_i e;rcases c2 with⟨c3,c4,c5⟩|⟨y,rw0,AF,c3,c4,c5,c6,c7⟩
     ·exact .inl ⟨c3,c4,c5⟩
     ·have JK:x≠y:=λe'=>by subst e';have:=(hh.Ao b b x hl hl hx c3).2;omega
      exact .inr ⟨y,rw0,AF,c3,c4,by rw[Cd,if_neg JK];exact c5,c6,c7⟩)
   refine⟨{ sv with H:=V.Qa sv.H x (.cells (rows.set j nh) (width ct) ty) },?_,Uk.1,hf,Uk.2,rfl,rfl,rfl⟩;simp[k2,hw,k5,k8]
 ·simp at h
theorem lB{p p':US}{pv:V.SV}{n:Nat}(h:rh n p=some p')(hp:RS m φ p pv):∃pv',V.rh n pv=some pv'/\RS m φ p' pv':=by
 unfold rh at h;split at h
 ·rename_i i c;simp at h;subst h;cases pv with
  |v a=>exact hp.elim
  |loc j c'=>obtain⟨h1,rfl⟩:=hp;exact⟨_,rfl,h1,rfl⟩
 ·rename_i b c;simp at h;subst h;obtain⟨a,rfl,hv⟩:=hp.val (by simp);cases hv with
  |ptr _ _ x hx=>exact⟨_,rfl,RV.ptr b (c+n) x hx⟩
 ·rename_i b r c;simp at h;subst h;obtain⟨a,rfl,hv⟩:=hp.val (by simp);cases hv with
  |Lm _ _ _ x hx hr=>exact⟨_,rfl,RV.Lm b r (c+n) x hx hr⟩
 ·rename_i b r j c;simp at h;subst h;obtain⟨a,rfl,hv⟩:=hp.val (by simp);cases hv with
  |Dq _ _ _ _ x hx hr=>exact⟨_,rfl,RV.Dq b r j (c+n) x hx hr⟩
 ·rename_i row;simp at h;subst h;obtain⟨a,rfl,hv⟩:=hp.val (by simp);cases hv with
  |ee _ Vb hl hc hr=>
   have:=RL.drop (m:=m) ⟨hl,hr⟩ n;exact⟨_,rfl,RV.ee _ _ this.1 (λx hx=>hc x (List.mem_of_mem_drop hx)) this.2⟩
 ·simp at h
theorem Iv{i:Int}{K:Nat->Option X}:∀(n j:Nat),cases i K n j=some out->∃k,j<=k/\k<j+n/\i=(k:Int)/\K k=some out
 |0,j,h=>by simp[cases]at h
 |n+1,j,h=>by
  simp only[cases]at h;by_cases hc:i=(j:Int)
  ·simp[hc]at h;exact⟨j,ya _,by omega,hc,h⟩
  ·simp[hc]at h;obtain⟨k,h1,h2,h3,h4⟩:=Iv n (j+1) h;exact⟨k,by omega,by omega,h3,h4⟩
theorem se{b:Bool}{x:Option X}(h:ask b x=some out):b=true/\x=some out:=by
 unfold ask at h;cases b<;>simp_all
theorem Vt(r k:Nat):pF r k=r+k:=by unfold pF;split<;>simp
theorem YF{t:TypeId}{p:US}{i:Int}{K:US->Option X}(h:indexAddr A s.H t p i K=some out):
  ∃v,K v=some out/\∀(m:Mp)(φ:Nat->Option Nat)(sv:V.S)(pv:V.SV),RH m s.H sv.H->RS m φ p pv->∃vv,V.indexAddr A sv.H t pv i=some vv/\RS m φ v vv:=by
 unfold indexAddr at h;split at h
 ·rename_i n e hu;simp only[aa]at h;obtain⟨sz,eg,h⟩:=h;obtain⟨k,_,hk,rfl,hc⟩:=Iv n 0 h;obtain⟨v,hv,h⟩:=aa.1 hc;refine⟨v,h,λm φ sv pv hh hp=> ?_⟩;obtain⟨vv,h1,h2⟩:=lB hv hp;refine⟨vv,?_,h2⟩;have hr:V.ua (k:Int) n=true:=by simp[V.ua];omega
  simp[V.indexAddr,hu,hr,eg,h1]
 ·rename_i e hu;split at h
  ·rename_i b r n;split at h
   case h_3=>simp at h
   case h_2=>
    rename_i ct l hb;split at h
    case isFalse=>simp at h
    rename_i hz;obtain⟨h0,h⟩:=se h;refine⟨_,h,λm φ sv pv hh hp=> ?_⟩;obtain⟨a,rfl,hv⟩:=hp.val (by simp);have Xu:0<=i/\i<(n:Int):=by simpa[V.ua]using h0
    have Mc:i.toNat<n:=by omega
    cases hv with
    |sl _ _ _ x hx hle=>
     obtain⟨k0,k1,k2⟩:=Ie hh hb;obtain⟨rows,ty,k3,k4,k5⟩:=k2 x hx;refine⟨.v (.ptr x (r+i.toNat) 0),?_,?_⟩
     ·simp[V.indexAddr,hu,h0,V.Qk,k3,hz]
     ·rw[Vt];exact RV.Lm b _ 0 x hx (by omega)
    |iw _ _ a ha=>omega
   rename_i ct l hb;split at h
   case isFalse=>simp at h
   rename_i hz;obtain⟨h0,h⟩:=se h;refine⟨_,h,λm φ sv pv hh hp=> ?_⟩;obtain⟨a,rfl,hv⟩:=hp.val (by simp);have Xu:0<=i/\i<(n:Int):=by simpa[V.ua]using h0
   have Mc:i.toNat<n:=by omega
   cases hv with
   |sl _ _ _ x hx hle=>
    obtain⟨k0,k1⟩:=jd hh hb;obtain⟨rows,ty,k2,k3,k4⟩:=k1 x hx;refine⟨.v (.ptr x (r+i.toNat) 0),?_,?_⟩
    ·simp[V.indexAddr,hu,h0,V.Qk,k2,hz]
    ·rw[Vt];exact RV.Lm b _ 0 x hx (by omega)
   |iw _ _ a ha=>omega
  ·rename_i b;split at h
   case h_3=>simp at h
   case h_2=>
    rename_i ct l hb;split at h
    case isFalse=>simp at h
    rename_i hz;obtain⟨h0,h⟩:=se h;refine⟨_,h,λm φ sv pv hh hp=> ?_⟩;obtain⟨a,rfl,hv⟩:=hp.val (by simp);have Xu:0<=i/\i<(l.length:Int):=by simpa[V.ua]using h0
    have Mc:i.toNat<l.length:=by omega
    obtain⟨k0,k1,k2⟩:=Ie hh hb;cases hv with
    |all _ x hx=>
     obtain⟨rows,ty,k3,k4,k5⟩:=k2 x hx;refine⟨.v (.ptr x (0+i.toNat) 0),?_,?_⟩
     ·simp[V.indexAddr,hu,k0,h0,V.Qk,k3,hz]
     ·rw[Qf];exact RV.Lm b _ 0 x hx (by omega)
    |Ug _ a _ hl ha=>omega
   rename_i ct l hb;split at h
   case isFalse=>simp at h
   rename_i hz;obtain⟨h0,h⟩:=se h;refine⟨_,h,λm φ sv pv hh hp=> ?_⟩;obtain⟨a,rfl,hv⟩:=hp.val (by simp);have Xu:0<=i/\i<(l.length:Int):=by simpa[V.ua]using h0
   have Mc:i.toNat<l.length:=by omega
   obtain⟨k0,k1⟩:=jd hh hb;cases hv with
   |all _ x hx=>
    obtain⟨rows,ty,k2,k3,k4⟩:=k1 x hx;refine⟨.v (.ptr x (0+i.toNat) 0),?_,?_⟩
    ·simp[V.indexAddr,hu,k0,h0,V.Qk,k2,hz]
    ·rw[Qf];exact RV.Lm b _ 0 x hx (by omega)
   |Ug _ a _ hl ha=>omega
  ·rename_i b r;split at h
   case h_2=>simp at h
   rename_i ct l hb;split at h
   case isFalse=>simp at h
   rename_i hz;obtain⟨h0,h⟩:=se h;refine⟨_,h,λm φ sv pv hh hp=> ?_⟩;obtain⟨a,rfl,hv⟩:=hp.val (by simp);have Xu:0<=i/\i<((l.getD r []).length:Int):=by simpa only[V.ua,Ab,decide_eq_true_eq]using h0
   have Mc:i.toNat<(l.getD r []).length:=by omega
   obtain⟨k0,k1,_⟩:=Ie hh hb;cases hv with
   |Rt _ _ x hx=>
    obtain⟨aD,rows,ty,k2,k3,k4⟩:=gy hh hb hx;refine⟨.v (.ptr x (0+i.toNat) 0),?_,?_⟩
    ·have Ias:V.ua i (m.len b (r+1))=true:=by rw[k1 r];exact h0
     simp[V.indexAddr,hu,Ias,V.Qk,k2,hz]
    ·rw[Qf];exact RV.Dq b r _ 0 x hx (by rw[k1 r];exact Mc)
   |Dv _ _ a _ hl ha=>rw[k1 r]at hl;omega
  ·rename_i ct l;split at h
   case isFalse=>simp at h
   rename_i hz;obtain⟨h0,h⟩:=se h;refine⟨_,h,λm φ sv pv hh hp=> ?_⟩;obtain⟨a,rfl,hv⟩:=hp.val (by simp);have Xu:0<=i/\i<(l.length:Int):=by simpa[V.ua]using h0
   have Mc:i.toNat<l.length:=by omega
   cases hv with
   |lit _ _ rows h1 h2 h3=>
    have Gl:Uo m (width ct) rows.length (vw ct l) rows:=⟨λi _=>⟨kg _ _ _,Te _ _ _⟩,λi row _=>h2 i row,λi row c x a _=>h3 i row c x a⟩;obtain⟨row,k5,k6,k7⟩:=Gl.row (ya _) (i:=i.toNat) (by omega);refine⟨.v (.ee row),?_,?_⟩
    ·simp[V.indexAddr,hu,h1,h0,hz,k5]
    ·exact RV.ee _ _ k6.1 (Te _ _ _) k6.2
   |bh _ a ha=>simp at Mc
  ·simp at h
 ·simp at h
theorem LV{t:TypeId}{x:UV}{i:Int}{K:UV->Option X}(h:index A t x i K=some out):
  ∃v,K v=some out/\∀(m:Mp)(a:V.AV),RV m x a->∃b,V.index A t a i=some b/\RV m v b:=by
 unfold index at h;split at h
 ·rename_i n e cs hu;simp only[aa]at h;obtain⟨sz,eg,h⟩:=h;obtain⟨k,_,hk,rfl,hc⟩:=Iv n 0 h;obtain⟨v,hv,h⟩:=aa.1 hc;refine⟨v,h,λm a ha=> ?_⟩;cases ha with
  |agg _ as hl hr=>
   obtain⟨b,h1,h2⟩:=Og hv ⟨hl,hr⟩;have bj:V.ua (k:Int) n=true:=by simp[V.ua];omega
   exact⟨b,by simp[V.index,hu,bj,eg,h1],h2⟩
 ·rename_i str hu;obtain⟨h0,h⟩:=se h;refine⟨_,h,λm a ha=> ?_⟩;cases ha with
  |str=>exact⟨_,by simp[V.index,hu,h0],.int _ _⟩
 ·simp at h
theorem RP.cons{i:Nat}{x:UV}{ps:List (Nat×UV)}{qs:List (Nat×V.AV)}(h:RP m ((i,x)::ps) qs):∃a qs',qs=(i,a)::qs'/\RV m x a/\RP m ps qs':=by
 obtain⟨h1,h2⟩:=h;cases qs with
 |nil=>simp at h1
 |cons q qs=>
  obtain⟨j,a⟩:=q;simp at h1;obtain⟨rfl,h1⟩:=h1;refine⟨a,qs,rfl,h2.2 0 x a rfl rfl,h1,⟨by have:=h2.1;simpa using this,λk y b k1 k2=>h2.2 (k+1) y b (by simpa using k1) (by simpa using k2)⟩⟩
theorem Br{place:Nat->Option (Nat×Nat)}:∀{ps:List (Nat×UV)}{qs:List (Nat×V.AV)}{row vp:List UV}{Vb:List V.AV},Lg place row ps=some vp->RL m row Vb->RP m ps qs->∃nh,V.Lg place Vb qs=some nh/\RL m vp nh
 |[],qs,row,vp,Vb,h,hr,hp=>by
  simp[Lg]at h;subst h;have:qs=[]:=by have:=hp.1;simpa using this
  subst this;exact⟨Vb,rfl,hr⟩
 |(i,x)::ps,qs,row,vp,Vb,h,hr,hp=>by
  obtain⟨a,qs',rfl,hx,bz⟩:=hp.cons;simp only[Lg,aa]at h;obtain⟨⟨off,n⟩,TL,cs,Kj,h⟩:=h;split at h
  case isFalse=>simp at h
  rename_i hlen;simp only[aa]at h;obtain⟨IY,qg,h⟩:=h;obtain⟨Ei,q1,q2⟩:=Tt Kj hx;obtain⟨wat,k1,k2,_⟩:=om qg hr q2;obtain⟨nh,k3,k4⟩:=Br h k2 bz;refine⟨nh,?_,k4⟩;simp only[V.Lg,TL,q1,da];rw[if_pos (by rw[q2.1];exact hlen),k1];exact k3
theorem NX{t:TypeId}{ps:List (Nat×UV)}{qs:List (Nat×V.AV)}{v:UV}(h:build A t ps=some v)(hp:RP m ps qs):∃a,V.build A t qs=some a/\RV m v a:=by
 simp only[build,aa]at h;obtain⟨z,hz,h⟩:=h;obtain⟨z',q1,q2,_⟩:=Gq hz;unfold V.build;simp only[q1,da];split at h
 ·rename_i fs hu;split at h
  case isFalse=>simp at h
  rename_i qj;simp only[ja]at h;obtain⟨row,De,rfl⟩:=h;obtain⟨Vb,k1,k2⟩:=Br De (q2 m) hp;exact⟨.agg Vb,by rw[hu];simp only[qj,if_true,k1,Yd],.agg _ _ k2.1 k2.2⟩
 ·rename_i n e hu;simp only[aa,ja]at h;obtain⟨sz,eg,row,De,rfl⟩:=h;obtain⟨Vb,k1,k2⟩:=Br De (q2 m) hp;exact⟨.agg Vb,by rw[hu];simp only[eg,da,k1,Yd],.agg _ _ k2.1 k2.2⟩
 ·simp at h
end
end Go.U
namespace Go.U
open Go
variable [TB:Uv]
def kp(Hv:V.AH):V.AV->Option (List (List V.AV))
 | .str s=>some (V.Qc s)
 |y=>V.rowsOf Hv y
def Kv(Hv:V.AH)(x':V.AV)(xs ys:List (List V.AV))(zl:Nat)(te:TypeId):Option (V.AV×V.AH):=
 match x' with
 | .Xa| .Ef=>some (.sl Hv.bl.length 0 ys.length,V.push Hv (.cells ys zl (some (te,1))))
 | .sl b r _=>if Hv.wm<=b/\V.Qk Hv b=some zl then some (.sl Hv.bl.length 0 (xs.length+ys.length),V.push (V.Qa Hv b .dead) (.cells (xs++ys) zl (V.mB (V.ZH Hv b) te r)))else none
 |_=>none
def Yr(m:Mp)(Hv:V.AH)(v:UV)(H':UH)(a:V.AV)(zd:V.AH):Prop:=∃m',RH m' H' zd/\RV m' v a/\m.Le m'/\gm m.top m Hv m' zd
section
variable {A:V.Oi}{Na:Nat->Option (List UV)}{m:Mp}{φ:Nat->Option Nat}{H H':UH}{Hv:V.AH}{X:Type}{out:X}
theorem Yr.same{v:UV}{a:V.AV}(hh:RH m H Hv)(hv:RV m v a):Yr m Hv v H a Hv:=⟨m,hh,hv,.refl m,.refl Hv (ya _)⟩
def RT(m:Mp)(c:CT)(l:List (Ib c))(rows:List (List V.AV)):Prop:=rows.length=l.length/\Uo m (width c) l.length (vw c l) rows
theorem RT.lit{c:CT}{l:List (Ib c)}{rows:List (List V.AV)}(h:RT m c l rows):RV m (.lit c l) (.lit (width c) rows):=
 .lit c l rows h.1 (λi row hi=>h.2.2.1 i row (by rw[<- h.1];exact Za hi) hi) λi row k x a h1 h2 h3=>h.2.2.2 i row k x a (by rw[<- h.1];exact Za h1) h1 h2 h3
theorem RT.of{c:CT}{l:List (Ib c)}{rows:List (List V.AV)}(hl:rows.length=l.length)(h:∀(i:Nat)(row:List V.AV),i<l.length->rows[i]?=some row->RL m (vw c l i) row):RT m c l rows:=
 ⟨hl,λi _=>⟨kg _ _ _,Te _ _ _⟩,λi row hi hr=>by rw[(h i row hi hr).1,kg],λi row k x a hi hr h1 h2=>(h i row hi hr).2 k x a h1 h2⟩
theorem RT.get{c:CT}{l:List (Ib c)}{rows:List (List V.AV)}(h:RT m c l rows){i:Nat}{row:List V.AV}(hr:rows[i]?=some row):RL m (vw c l i) row:=by
 have hi:i<l.length:=by rw[<- h.1];exact Za hr
 obtain⟨Vb,j1,j2,j3⟩:=h.2.row (Nat.le_of_eq h.1.symm) hi;rw[hr]at j1;simp at j1;subst j1;exact j2
theorem Uo.mono{m':Mp}{z n:Nat}{f:Nat->List UV}{rows:List (List V.AV)}(h:Uo m z n f rows)(hle:m.Le m'):Uo m' z n f rows:=
 ⟨h.1,h.2.1,λi row c x a h0 h1 h2 h3=>(h.2.2 i row c x a h0 h1 h2 h3).mono hle⟩
theorem RT.mono{m':Mp}{c:CT}{l:List (Ib c)}{rows:List (List V.AV)}(h:RT m c l rows)(hle:m.Le m'):RT m' c l rows:=⟨h.1,h.2.mono hle⟩
theorem RT.nil{c:CT}:RT m c [] []:= .of rfl λi row hi=>by simp at hi
theorem Sae{c:CT}{l l':List (Ib c)}{i:Nat}:vw c (l++l') i=if i<l.length then vw c l i else vw c l' (i-l.length):=by
 simp only[vw,Fb];split
 ·rename_i h;rw[Ja h]
 ·rename_i h;rw[Oa (by omega)]
theorem RT.append{c:CT}{l l':List (Ib c)}{rows Ke:List (List V.AV)}(h:RT m c l rows)(h':RT m c l' Ke):RT m c (l++l') (rows++Ke):=
 .of (by simp[h.1,h'.1]) λi row hi hr=>by
  rw[Sae];split
  ·rename_i Mc;rw[Ja (by rw[h.1];exact Mc)]at hr;exact h.get hr
  ·rename_i vu;rw[Oa (by rw[h.1];omega),h.1]at hr;exact h'.get hr
theorem RT.drop{c:CT}{l:List (Ib c)}{rows:List (List V.AV)}(h:RT m c l rows)(k:Nat):RT m c (l.drop k) (rows.drop k):=
 .of (by simp[h.1]) λi row hi hr=>by
  rw[Lc]at hr;have:vw c (l.drop k) i=vw c l (k+i):=by simp only[vw,Fb,Lc]
  rw[this];exact h.get hr
theorem RT.take{c:CT}{l:List (Ib c)}{rows:List (List V.AV)}(h:RT m c l rows)(k:Nat):RT m c (l.take k) (rows.take k):=
 .of (by simp[h.1]) λi row hi hr=>by
  rw[Jb]at hr;split at hr
  ·rename_i hk;have:vw c (l.take k) i=vw c l i:=by simp only[vw,Fb,Jb,if_pos hk]
   rw[this];exact h.get hr
  ·simp at hr
theorem Ej{α:Type}(r n:Nat)(l:List α):Xk r n l=(l.drop r).take n:=by cases r<;>rfl
theorem RT.rows{c:CT}{l:List (Ib c)}{rows:List (List V.AV)}(h:RT m c l rows){r:List V.AV}(hr:r∈rows):r.length=width c:=by
 obtain⟨i,hi⟩:=Ve hr;rw[(h.get hi).1,kg]
theorem RT.block{c:CT}{l:List (Ib c)}{rows:List (List V.AV)}{b x:Nat}(hlen:m.len b 0=l.length)(oq:m.ι b 0=some x){ty:Option (TypeId×Nat)}(hb:Hv.bl[x]?=some (.cells rows (width c) ty))(h:RT m c l rows):RB m Hv b (.cells c l):=
 ⟨hlen,.inr ⟨x,rows,ty,oq,hb,Nat.le_of_eq h.1.symm,h.2⟩⟩
theorem RH.zw(hh:RH m H Hv){c:CT}{l:List (Ib c)}{rows:List (List V.AV)}(h:RT m c l rows){zl:Nat}(hz:zl=width c){ty:Option (TypeId×Nat)}:Yr m Hv (.all H.bl.length) (U.push H (.cells c l)) (.sl Hv.bl.length 0 l.length) (V.push Hv (.cells rows zl ty)):=by
 subst hz;have gf:=hh.new (y:= .cells c l) (yv:= .cells rows (width c) ty) (n:=l.length) (RT.block (Xe _ _ _ _) (lf _ _ _ _) (by rw[uf,if_neg (by omega),if_pos rfl]) (h.mono (iR hh _ _)));refine⟨_,gf.1,?_,gf.2.1,gf.2.2⟩;have:=RV.all (m:=m.add H.bl.length (some Hv.bl.length) l.length) H.bl.length Hv.bl.length (lf _ _ _ _);rw[Xe]at this;exact this
theorem Mr{t e:TypeId}{c:CT}{x:Ib c}(h:elemOf A t=some ⟨c,x⟩)(he:V.elem? A t=some e):∃z,zero A e=some z/\uK c z=some x/\0<z.length/\V.size A e=some z.length/\width c=z.length:=by
 simp only[elemOf,he,da,aa]at h;obtain⟨z,hz,c',hc,x',hx,h⟩:=h;split at h
 ·rename_i h1;simp only[Wc,Sigma.mk.injEq]at h;obtain⟨rfl,h2⟩:=h;have h2:=eq_of_heq h2;subst h2;exact⟨z,hz,hx,h1⟩
 ·simp at h
theorem Ww{zl:Nat}:∀{ps:List (Nat×UV)}{qs:List (Nat×V.AV)}{rows Rq:List (List UV)}{Ke:List (List V.AV)},If rows ps=some Rq->RP m ps qs->Ke.length=rows.length->
  (∀(i:Nat)(row:List UV)(Vb:List V.AV),rows[i]?=some row->Ke[i]?=some Vb->RL m row Vb/\row.length=zl)->
  ∃BC,V.If Ke qs=some BC/\BC.length=Rq.length/\Rq.length=rows.length/\∀(i:Nat)(row:List UV)(Vb:List V.AV),Rq[i]?=some row->BC[i]?=some Vb->RL m row Vb/\row.length=zl
 |[],qs,rows,Rq,Ke,h,hp,hl,hr=>by
  simp[If]at h;subst h;have:qs=[]:=by have:=hp.1;simpa using this
  subst this;exact⟨Ke,rfl,hl,rfl,hr⟩
 |(i,x)::ps,qs,rows,Rq,Ke,h,hp,hl,hr=>by
  obtain⟨a,qs',rfl,hx,bz⟩:=hp.cons;simp only[If,aa]at h;obtain⟨cs,Kj,lV,vac,h⟩:=h;split at h
  case isFalse=>simp at h
  rename_i hc;obtain⟨Ei,q1,q2⟩:=Tt Kj hx;have hi:=Za vac;have CZ:=Da (l:=Ke) (i:=i) (by omega);obtain⟨k1,k2⟩:=hr i lV _ vac CZ;obtain⟨BC,j1,j2,j3,j4⟩:=Ww (zl:=zl) (Ke:=Ke.set i Ei) h bz (by simp[hl]) (λj row Vb e1 e2=>by
   rw[Cc]at e1 e2;by_cases e:i=j
   ·subst e;simp[hi]at e1;rw[if_pos rfl,if_pos (by omega)]at e2;simp at e2;subst e1;subst e2;exact⟨q2,by omega⟩
   ·rw[if_neg e]at e1 e2;exact hr j row Vb e1 e2)
  refine⟨BC,?_,j2,by rw[j3];simp,j4⟩;simp only[V.If,q1,da,CZ];rw[if_pos (by rw[q2.1,k1.1];exact hc)];exact j1
theorem en{c:CT}:∀{ps:List (Nat×UV)}{i:Nat}{H H':UH}{L:List (List (Ib c))},ni c i ps H=some (L,H')->H'.wm=H.wm
 |[],i,H,H',L,h=>by simp[ni]at h;rw[h.2]
 |(j,x)::ps,i,H,H',L,h=>by
  simp only[ni]at h;split at h
  case isFalse=>simp at h
  split at h
  ·simp only[aa]at h;obtain⟨⟨l,H1⟩,h1,h⟩:=h;simp at h;rw[<- h.2];exact en h1
  ·simp only[aa]at h;obtain⟨⟨l,H1⟩,h1,h⟩:=h;simp at h;rw[<- h.2];exact en h1
  ·split at h
   ·split at h
    ·simp only[aa]at h;obtain⟨⟨l,H1⟩,h1,h⟩:=h;simp at h;rw[<- h.2];exact(en h1).trans rfl
    ·simp at h
   ·simp at h
  ·simp at h
theorem iy{c:CT}{Hv:V.AH}{m:Mp}:∀{ps:List (Nat×UV)}{i:Nat}{H H':UH}{L:List (List (Ib c))}{qs:List (Nat×V.AV)},ni c i ps H=some (L,H')->RH m H Hv->RP m ps qs->
  L.length=qs.length/\RH m H' Hv/\(∀b,live H' b->live H b)/\(∀r q,qs[r]?=some q->q.1=i+r/\q.2.cells?=some [q.2])/\
  ∃F:Nat->Option Nat,(∀r x,F r=some x->r<L.length/\∃b,m.ι b 0=some x/\H.wm<=b/\live H b/\¬live H' b)/\(∀r r' x,F r=some x->F r'=some x->r=r')/\∀r q,qs[r]?=some q->Jm m Hv (F r) c (L.getD r []) q.2
 |[],i,H,H',L,qs,h,hh,hp=>by
  simp[ni]at h;obtain⟨rfl,rfl⟩:=h;have:qs=[]:=by have:=hp.1;simpa using this
  subst this;exact⟨rfl,hh,λ_ h=>h,λr q h=>by simp at h,λ_=>none,λr x h=>by simp at h,λr r' x h=>by simp at h,λr q h=>by simp at h⟩
 |(j,x)::ps,i,H,H',L,qs,h,hh,hp=>by
  obtain⟨a,qs',rfl,hx,bz⟩:=hp.cons;simp only[ni]at h;split at h
  case isFalse=>simp at h
  rename_i hj;subst hj;have fin:∀{l0:List (Ib c)}{l:List (List (Ib c))}{H0 H1:UH}{o:Option Nat},ni c (j+1) ps H0=some (l,H1)->RH m H0 Hv->(∀b,live H0 b->live H b)->H0.wm=H.wm->(∀y,o=some y->∃b,m.ι b 0=some y/\H.wm<=b/\live H b/\¬live H0 b)->a.cells?=some [a]->Jm m Hv o c l0 a->l0::l=L->H1=H'->
    (L.length=((j,a)::qs').length/\RH m H' Hv/\(∀b,live H' b->live H b)/\(∀r q,((j,a)::qs')[r]?=some q->q.1=j+r/\q.2.cells?=some [q.2])/\
    ∃F:Nat->Option Nat,(∀r x,F r=some x->r<L.length/\∃b,m.ι b 0=some x/\H.wm<=b/\live H b/\¬live H' b)/\(∀r r' x,F r=some x->F r'=some x->r=r')/\∀r q,((j,a)::qs')[r]?=some q->Jm m Hv (F r) c (L.getD r []) q.2):=λ{l0 l H0 H1 o}h1 hh0 OO jS ho hca De hL hH=>by
   subst hL;subst hH;obtain⟨k1,k2,k3,k4,F,k5,k6,k7⟩:=iy h1 hh0 bz;refine⟨by simp[k1],k2,λb hb=>OO b (k3 b hb),λr q hq=> ?_,λr=>match r with|0=>o|r+1=>F r,λr y hy=> ?_,λr r' y hy Ze=> ?_,λr q hq=> ?_⟩
   ·cases r with
    |zero=>simp at hq;subst hq;exact⟨rfl,hca⟩
    |succ r=>have:=k4 r q (by simpa using hq);exact⟨by omega,this.2⟩
   ·cases r with
    |zero=>
     obtain⟨b,b1,b2,b3,b4⟩:=ho y hy;exact⟨by simp,b,b1,b2,b3,λhb=>b4 (k3 b hb)⟩
    |succ r=>
     obtain⟨c1,b,b1,b2,b3,b4⟩:=k5 r y hy;exact⟨by simp;omega,b,b1,by rw[<- jS];exact b2,OO b b3,b4⟩
   ·have Fae:∀r,o=some y->F r=some y->False:=λr h1 h2=>by
     obtain⟨b,b1,b2,b3,b4⟩:=ho y h1;obtain⟨_,b',b1',b2',b3',b4'⟩:=k5 r y h2;have:=hh.inj b b' y b3 (OO b' b3') b1 b1';subst this;exact b4 b3'
    cases r with
    |zero=>
     cases r' with
     |zero=>rfl
     |succ r'=>exact(Fae r' hy Ze).elim
    |succ r=>
     cases r' with
     |zero=>exact(Fae r Ze hy).elim
     |succ r'=>rw[k6 r r' y hy Ze]
   ·cases r with
    |zero=>simp at hq;subst hq;exact De
    |succ r=>exact k7 r q (by simpa using hq)
  split at h
  ·simp only[aa]at h;obtain⟨⟨l,H1⟩,h1,h⟩:=h;simp at h;cases hx;exact fin (l0:=[]) (o:=none) h1 hh (λ_ h=>h) rfl (λy h=>by simp at h) rfl (.inl ⟨rfl,rfl,.inl rfl⟩) h.1 h.2
  ·simp only[aa]at h;obtain⟨⟨l,H1⟩,h1,h⟩:=h;simp at h;cases hx;exact fin (l0:=[]) (o:=none) h1 hh (λ_ h=>h) rfl (λy h=>by simp at h) rfl (.inl ⟨rfl,rfl,.inr rfl⟩) h.1 h.2
  ·rename_i b;split at h
   case h_2=>simp at h
   rename_i c' l0 hb;split at h
   case isFalse=>simp at h
   rename_i hc;obtain⟨rfl,UG⟩:=hc;simp only[aa]at h;obtain⟨⟨l,H1⟩,h1,h⟩:=h;simp at h;obtain⟨k0,kx⟩:=jd (s:=⟨[],[],H,0⟩) (sv:=⟨[],[],Hv⟩) hh hb;have Oe:live H b:=⟨_,hb,rfl⟩;have Vk:∀b',live (Qa H b .dead) b'->b'≠b/\live H b':=λb' h=>by
    rcases Qg h with⟨_,h'⟩|h'
    ·simp[Me]at h'
    ·exact h'
   cases hx with
   |all _ x TG=>
    obtain⟨rows,ty,k2,k3,k4⟩:=kx x TG;exact fin (l0:=l0) (o:=some x) h1 (hh.kill b) (λb' h=>(Vk b' h).2) rfl (λy e=>by simp at e;subst e;exact⟨b,TG,UG,Oe,λhb=>(Vk b hb).1 rfl⟩) rfl (.inr ⟨x,rows,ty,rfl,by rw[k0],k2,k3,k4⟩) h.1 h.2
   |Ug _ _ _ hl ha=>exact fin (l0:=l0) (o:=none) h1 (hh.kill b) (λb' h=>(Vk b' h).2) rfl (λy e=>by simp at e) (by rcases ha with rfl|rfl<;>rfl) (.inl ⟨by rw[<- k0];exact hl,rfl,ha⟩) h.1 h.2
  ·simp at h
theorem Xw{z:List V.AV}(hz:z.length=1):∀{qs:List (Nat×V.AV)}{pre:List (List V.AV)},(∀r q,qs[r]?=some q->q.1=pre.length+r/\q.2.cells?=some [q.2])->V.If (pre++fb qs.length z) qs=some (pre++qs.map λq=>[q.2])
 |[],pre,_=>by simp[V.If]
 |(j,a)::qs,pre,h=>by
  obtain⟨h1,h2⟩:=h 0 (j,a) rfl;simp only[ug]at h1 h2;subst h1;have hg:(pre++fb (qs.length+1) z)[pre.length]?=some z:=by simp[Oa,Gi]
  have hs:(pre++fb (qs.length+1) z).set pre.length [a]=(pre++[[a]])++fb qs.length z:=by
   rw[List.set_append_right _ _ (ya _),Nat.sub_self,List.replicate_succ,List.set_cons_zero,Je];rfl
  have ih:=Xw hz (qs:=qs) (pre:=pre++[[a]]) λr q hq=>by
   obtain⟨k1,k2⟩:=h (r+1) q (by simpa using hq);exact⟨by simp;omega,k2⟩
  simp only[V.If,h2,da,List.length_cons,hg];rw[if_pos (by simp[hz]),hs,ih]
  simp
theorem Pr{t:TypeId}{n:Nat}{ps:List (Nat×UV)}{qs:List (Nat×V.AV)}{v:UV}(h:buildSlice A H t n ps=some (v,H'))(hh:RH m H Hv)(hp:RP m ps qs):∃a zd,V.buildSlice A Hv t n qs=some (a,zd)/\Yr m Hv v H' a zd:=by
 simp only[buildSlice,aa]at h;obtain⟨e,he,z,hz,⟨c,x0⟩,v_,h⟩:=h;obtain⟨z0,hz0,z_,fg,eg,T8⟩:=Mr v_ he;rw[hz]at hz0;simp at hz0;subst hz0;obtain⟨z',q1,q2,q3⟩:=Gq hz;have UX:z'.length=z.length:=(q2 m).1;simp only at h;split at h
 case isFalse=>simp at h
 rename_i hc;unfold V.buildSlice;simp only[he,q1,da];rw[if_pos (by rw[UX];exact⟨hc,fg,eg⟩)];have hql:qs.length=ps.length:=by have:=congrArg fa hp.1;simpa using this
 split at h
 ·rename_i h0;simp at h;obtain⟨rfl,rfl⟩:=h;rw[if_pos (by rw[hql];exact h0)];exact⟨_,_,rfl,.same hh .Ef⟩
 ·rename_i h0;rw[if_neg (by rw[hql];exact h0)];split at h
  ·rename_i r0 l9;simp at h;subst h;unfold YQ at l9;split at l9
   case h_2=>simp at l9
   rename_i c1 x1 jag;rw[v_]at jag;simp at jag;obtain⟨rfl,_⟩:=jag;split at l9
   case isFalse=>simp at l9
   rename_i hcn;obtain⟨hlen,Nax⟩:=hcn;simp only[aa]at l9;obtain⟨⟨L,H1⟩,hdr,l9⟩:=l9;simp at l9;obtain⟨rfl,rfl⟩:=l9;obtain⟨k1,k2,k3,k4,F,k5,k6,k7⟩:=iy hdr hh hp;have MV:z'.length=1:=by rw[UX,<- T8];rfl
   have WZ:=Xw MV (qs:=qs) (pre:=[]) (λr q hq=>by obtain⟨j1,j2⟩:=k4 r q hq;exact⟨by simpa using j1,j2⟩);simp only[List.nil_append]at WZ;rw[hql,hlen]at WZ;have gf:=k2.PR (c:=c1) (L:=L) (rows:=qs.map λq=>[q.2]) (ty:=some (e,1)) (F:=F) (by simp[k1]) (λr x h=>by
     obtain⟨_,b,b1,b2,b3,b4⟩:=k5 r x h;exact⟨⟨b,0,b1⟩,hh.wm b x b1 b2,λb' s' Fg e'=>b4 ((hh.inj b' b x (k3 b' Fg) b3 e' b1) ▸ Fg)⟩) k6
    (λr hr=>by
     cases hf:F r with
     |none=>rfl
     |some x=>have:=(k5 r x hf).1;omega) (λr hr=>by
     have hq:=Da (l:=qs) (i:=r) (by omega);exact⟨_,by rw[xe,hq];rfl,k7 r _ hq⟩)
   have hLn:L.length=n:=by rw[k1,hql,hlen]
   rw[hLn]at gf;exact⟨.sl Hv.bl.length 0 n,V.push Hv (.cells (qs.map λq=>[q.2]) z'.length (some (e,1))),by rw[WZ];rfl,by rw[MV];exact gf⟩
  simp only[aa]at h;obtain⟨rows,de,l,hl,h⟩:=h;simp at h;obtain⟨rfl,rfl⟩:=h;obtain⟨Ke,k1,k2,k3,k4⟩:=Ww (zl:=z.length) (Ke:=fb n z') de hp (by simp) (λi row Vb e1 e2=>by
   rw[Gi]at e1 e2;split at e1
   ·rename_i hi;rw[if_pos hi]at e2;simp at e1 e2;subst e1;subst e2;exact⟨q2 m,rfl⟩
   ·simp at e1)
  obtain⟨d1,d2⟩:=jN (m:=m) hl;have hn:rows.length=n:=by rw[k3];simp
  have bY:RT m c l Ke:= .of (by rw[k2,d1]) λi row hi hr=>by
   have i_:=Da (l:=rows) (i:=i) (by omega);exact d2 i _ i_ (k4 i _ row i_ hr).1
  have hln:l.length=n:=by rw[d1,hn]
  have:=hh.zw bY (zl:=z'.length) (by rw[UX,T8]) (ty:=some (e,1));rw[hln]at this;exact⟨.sl Hv.bl.length 0 n,V.push Hv (.cells Ke z'.length (some (e,1))),by simp[k1],this⟩
theorem XF{t:TypeId}{l c:UV}{K:UV->UH->Option X}(h:makeSlice A H t l c K=some out):
  ∃v H',K v H'=some out/\H'.wm=H.wm/\∀(m:Mp)(Hv:V.AH)(l' c':V.AV),RH m H Hv->RV m l l'->RV m c c'->∃a zd,V.makeSlice A Hv t l' c'=some (a,zd)/\Yr m Hv v H' a zd:=by
 unfold makeSlice at h;split at h
 case h_2=>simp at h
 rename_i k1 l0 k2 c0;simp only[aa]at h;obtain⟨e,he,⟨ct,x0⟩,v_,n,hn,h⟩:=h;obtain⟨z,hz,z_,fg,eg,T8⟩:=Mr v_ he;obtain⟨h0,h⟩:=se h;simp only[Ab,decide_eq_true_eq]at h0;refine⟨_,_,h,rfl,λm Hv l' c' hh hl DB=> ?_⟩;cases hl;cases DB;obtain⟨z',q1,q2,q3⟩:=Gq hz;have UX:z'.length=z.length:=(q2 m).1;have bY:RT m ct (fb l0.toNat x0) (fb l0.toNat z'):= .of (by simp) λi row hi hr=>by
  rw[Nv]at hi;rw[Gi,if_pos hi]at hr;simp at hr;subst hr;have:vw ct (fb l0.toNat x0) i=enc ct x0:=by simp[vw,Fb,Gi,hi]
  rw[this];exact So z_ (q2 m)
 have:=hh.zw bY (zl:=z'.length) (by rw[UX,T8]) (ty:=some (e,1));rw[Nv]at this;refine⟨.sl Hv.bl.length 0 l0.toNat,V.push Hv (.cells (fb l0.toNat z') z'.length (some (e,1))),?_,this⟩;simp only[V.makeSlice,he,q1,hn,da];rw[if_pos ⟨h0.1.1.1,h0.1.1.2,h0.1.2,h0.2,by rw[UX];exact fg,by rw[UX];exact eg⟩]
theorem kF(m:Mp)(s:ByteArray):RT m (.int .u8) (dR s) (V.Qc s):=by
 refine .of (by simp only[V.Qc,Qh];exact(Qh ..).symm) λi row hi hr=> ?_
 simp only[V.Qc,xe,ja]at hr;obtain⟨b,hb,rfl⟩:=hr;have h1:(dR s)[i]?=some ((b.toNat:Nat):Int):=by
  simp only[dR,xe,hb,Yd]
 have h2:vw (.int .u8) (dR s) i=[.int .u8 ((b.toNat:Nat):Int)]:=
  congrArg (λo:Option Int=>[UV.int .u8 (o.getD 0)]) h1
 rw[h2];exact .cons (.int _ _) .nil
theorem Ii{y:UV}{c:CT}{g:List (Ib c)}{a:V.AV}(h:rowsOf H c y=some g)(hh:RH m H Hv)(hy:RV m y a):∃rows,kp Hv a=some rows/\RT m c g rows:=by
 cases hy with
 |lit c' l rows h1 h2 h3=>
  simp only[rowsOf]at h;split at h
  case isFalse=>simp at h
  rename_i hc;subst hc;simp at h;subst h;exact⟨rows,rfl,h1,λi _=>⟨kg _ _ _,Te _ _ _⟩,λi row _=>h2 i row,λi row k x a _=>h3 i row k x a⟩
 |bh c' a ha=>
  simp only[rowsOf]at h;split at h
  case isFalse=>simp at h
  rename_i hc;subst hc;simp at h;subst h;exact⟨[],by rcases ha with rfl|rfl<;>rfl,.nil⟩
 |all b x hx=>
  simp only[rowsOf]at h;split at h
  case h_2=>simp at h
  rename_i c' l hb;split at h
  case isFalse=>simp at h
  rename_i hc;subst hc;simp at h;subst h;obtain⟨k0,k1⟩:=jd (s:=⟨[],[],H,0⟩) (sv:=⟨[],[],Hv⟩) hh hb;obtain⟨rows,ty,k2,k3,k4⟩:=k1 x hx;have GV:Hv.bl[x]?=some (.cells rows (width c') ty):=k2;refine⟨rows.take l.length,?_,.of (by simp;omega) λi row hi hr=> ?_⟩
  ·show V.rowsOf Hv (.sl x 0 (m.len b 0))=_;simp only[V.rowsOf,GV];rw[if_pos (by omega),k0];simp
  ·rw[Jb,if_pos hi]at hr;obtain⟨Vb,j1,j2,j3⟩:=k4.row k3 hi;rw[j1]at hr;simp at hr;subst hr;exact j2
 |Ug b a Mc hl ha=>
  simp only[rowsOf]at h;split at h
  case h_2=>simp at h
  rename_i c' l hb;split at h
  case isFalse=>simp at h
  rename_i hc;subst hc;simp at h;subst h;obtain⟨k0,k1⟩:=jd (s:=⟨[],[],H,0⟩) (sv:=⟨[],[],Hv⟩) hh hb;have:l=[]:=by rw[hl]at k0;exact Gb.1 k0.symm
  subst this;exact⟨[],by rcases ha with rfl|rfl<;>rfl,.nil⟩
 |sl b r n0 x hx hle=>
  simp only[rowsOf]at h;split at h
  case h_2=>simp at h
  rename_i c' l hb;split at h
  case isFalse=>simp at h
  rename_i hc;subst hc;simp at h;subst h;obtain⟨k0,k1⟩:=jd (s:=⟨[],[],H,0⟩) (sv:=⟨[],[],Hv⟩) hh hb;obtain⟨rows,ty,k2,k3,k4⟩:=k1 x hx;have GV:Hv.bl[x]?=some (.cells rows (width c') ty):=k2;have YG:RT m c' l (rows.take l.length):= .of (by simp;omega) λi row hi hr=>by
   rw[Jb,if_pos hi]at hr;obtain⟨Vb,j1,j2,j3⟩:=k4.row k3 hi;rw[j1]at hr;simp at hr;subst hr;exact j2
  refine⟨(rows.drop r).take n0,?_,?_⟩
  ·show V.rowsOf Hv (.sl x r n0)=_;simp only[V.rowsOf,GV];rw[if_pos (by omega)]
  ·rw[Ej];have:=(YG.drop r).take n0;rw[List.drop_take,List.take_take,Nat.min_eq_left (by omega)]at this;exact this
 |Rt b r x hx=>
  simp only[rowsOf]at h;split at h
  case h_2=>simp at h
  rename_i c' l hb;split at h
  case isFalse=>simp at h
  rename_i hc;subst hc;have h:some (l.getD r [])=some g:=h;injection h with h
  subst h;obtain⟨_,k1,_⟩:=Ie (s:=⟨[],[],H,0⟩) (sv:=⟨[],[],Hv⟩) hh hb;obtain⟨aD,rows,ty,k2,k3,k4⟩:=gy (s:=⟨[],[],H,0⟩) (sv:=⟨[],[],Hv⟩) hh hb hx;have GV:Hv.bl[x]?=some (.cells rows (width c') ty):=k2;refine⟨rows.take (l.getD r []).length,?_,.of (by rw[je];omega) λi row hi hr=> ?_⟩
  ·show V.rowsOf Hv (.sl x 0 (m.len b (r+1)))=_;simp only[V.rowsOf,GV];rw[k1 r,if_pos (by omega)];simp
  ·rw[Jb,if_pos hi]at hr;obtain⟨Vb,j1,j2,j3⟩:=k4.row k3 hi;rw[j1]at hr;simp at hr;subst hr;exact j2
 |Dv b r a Mc hl ha=>
  simp only[rowsOf]at h;split at h
  case h_2=>simp at h
  rename_i c' l hb;split at h
  case isFalse=>simp at h
  rename_i hc;subst hc;have h:some (l.getD r [])=some g:=h;injection h with h
  subst h;obtain⟨_,k1,_⟩:=Ie (s:=⟨[],[],H,0⟩) (sv:=⟨[],[],Hv⟩) hh hb;have:l.getD r []=[]:=by rw[k1 r]at hl;exact Gb.1 hl
  rw[this];exact⟨[],by rcases ha with rfl|rfl<;>rfl,.nil⟩
 |iw b r a ha=>
  simp only[rowsOf]at h;split at h
  case h_2=>simp at h
  rename_i c' l hb;split at h
  case isFalse=>simp at h
  rename_i hc;subst hc;simp at h;subst h;exact⟨[],by rcases ha with rfl|rfl<;>rfl,by rw[Ej];exact .nil⟩
 |str s=>
  simp only[rowsOf]at h;split at h
  case isFalse=>simp at h
  rename_i hc;subst hc;injection h with h
  subst h;exact⟨V.Qc s,rfl,kF m s⟩
 |_=>simp[rowsOf]at h
def Yab(m:Mp)(H:UH)(Hv:V.AH)(x:Nat):Prop:=(∃b s,m.ι b s=some x)/\Hv.wm<=x/\∀b s,live H b->m.ι b s≠some x
theorem GH(hh:RH m H Hv){c:CT}{f g:List (List (Ib c))}{xs ys:List (List V.AV)}{Fx Fy:Nat->Option Nat}{ty:Option (TypeId×Nat)}(t_:xs.length=f.length)(hgy:ys.length=g.length)
  (hFx:∀r x,r<f.length->Fx r=some x->Yab m H Hv x) (hFy:∀r x,Fy r=some x->Yab m H Hv x) (Cg:∀r r' x,r<f.length->r'<f.length->Fx r=some x->Fx r'=some x->r=r') (hyi:∀r r' x,Fy r=some x->Fy r'=some x->r=r')
  (JK:∀r r' x,r<f.length->Fx r=some x->Fy r'≠some x) (hyo:∀r,g.length<=r->Fy r=none) (hrx:∀r,r<f.length->∃a,xs[r]?=some [a]/\Jm m Hv (Fx r) c (f.getD r []) a) (hry:∀r,r<g.length->∃a,ys[r]?=some [a]/\Jm m Hv (Fy r) c (g.getD r []) a):
  Yr m Hv (.all H.bl.length) (push H (.deep c (f++g))) (.sl Hv.bl.length 0 (f++g).length) (V.push Hv (.cells (xs++ys) 1 ty)):=by
 have hF:∀r x,(if r<f.length then Fx r else Fy (r-f.length))=some x->Yab m H Hv x:=λr x h=>by
  split at h
  ·rename_i hr;exact hFx r x hr h
  ·exact hFy _ x h
 refine hh.PR (F:=λr=>if r<f.length then Fx r else Fy (r-f.length)) (by simp[t_,hgy]) hF (λr r' x h1 h2=> ?_) (λr hr=> ?_) (λr hr=> ?_)
 ·split at h1<;>split at h2
  ·rename_i a b;exact Cg r r' x a b h1 h2
  ·rename_i a b;exact(JK r _ x a h1 h2).elim
  ·rename_i a b;exact(JK r' _ x b h2 h1).elim
  ·have:=hyi _ _ x h1 h2;omega
 ·rw[oe]at hr;rw[if_neg (by omega)];exact hyo _ (by omega)
 ·rw[oe]at hr;by_cases h:r<f.length
  ·obtain⟨a,k1,k2⟩:=hrx r h;refine⟨a,by rw[Ja (by omega)];exact k1,?_⟩;rw[if_pos h];simp only[Fb]at k2 ⊢;rw[Ja h];exact k2
  ·obtain⟨a,k1,k2⟩:=hry (r-f.length) (by omega);refine⟨a,by rw[Oa (by omega),t_];exact k1,?_⟩;rw[if_neg h];simp only[Fb]at k2 ⊢;rw[Oa (by omega)];exact k2
theorem WQ{y:UV}{b:Nat}{c:CT}{a:List (Ib c)}{l:List (List (Ib c))}(h:X7 H y=some (b,⟨c,a,l⟩)):y= .all b/\H.bl[b]?=some (.deep c (a::l))/\H.wm<=b:=by
 unfold X7 at h;split at h
 ·rename_i b0;split at h
  ·rename_i c0 a0 l0 hb;split at h
   ·rename_i hw;simp only[Wc,Qe,Sigma.mk.injEq]at h;obtain⟨rfl,rfl,h⟩:=h;have h:=eq_of_heq h;simp only[Qe]at h;obtain⟨rfl,rfl⟩:=h;exact⟨rfl,hb,hw⟩
   ·simp at h
  ·simp at h
 ·simp at h
theorem XQ{x:UV}{b:Nat}{c:CT}{f:List (List (Ib c))}{H0:UH}(h:Z7 H c b x=some (f,H0)):
  ((x= .Xa\/x= .Ef)/\f=[]/\H0=Qa H b .dead)\/∃b1,x= .all b1/\H.bl[b1]?=some (.deep c f)/\b1≠b/\H.wm<=b1/\H0=Qa (Qa H b1 .dead) b .dead:=by
 unfold Z7 at h;split at h
 ·simp at h;exact .inl ⟨.inl rfl,h.1.symm ▸ rfl,h.2.symm⟩
 ·simp at h;exact .inl ⟨.inr rfl,h.1.symm ▸ rfl,h.2.symm⟩
 ·rename_i b1;split at h
  ·rename_i c' l hb;split at h
   ·rename_i hc;obtain⟨rfl,h1,h2⟩:=hc;simp at h;obtain⟨rfl,rfl⟩:=h;exact .inr ⟨b1,rfl,hb,h1,h2,rfl⟩
   ·simp at h
  ·simp at h
 ·simp at h
theorem eR{ts:Array TypeId}{x y:UV}{K:UV->UH->Option X}(h:append A H ts x y K=some out):
  ∃v H',K v H'=some out/\H'.wm=H.wm/\∀(m:Mp)(Hv:V.AH)(x' y':V.AV),RH m H Hv->RV m x x'->RV m y y'->∃a zd,V.append A Hv ts x' y'=some (a,zd)/\Yr m Hv v H' a zd:=by
 simp only[append,aa]at h;obtain⟨t,ht,e,he,⟨c,x0⟩,v_,nb,hnb,_,V8,h⟩:=h;obtain⟨z,hz,z_,fg,eg,T8⟩:=Mr v_ he;obtain⟨z',q1,q2,q3⟩:=Gq hz;have UX:z'.length=z.length:=(q2 ⟨λ_ _=>none,λ_ _=>0,0⟩).1;simp only at h;have lq:∀(Hv:V.AH)(x' y':V.AV)(xs ys:List (List V.AV)),V.rowsOf Hv x'=some xs->kp Hv y'=some ys->
   (xs.length+ys.length) * nb<=70368744177664->xs.length+ys.length<9223372036854775808->(∀r∈ys,r.length=width c)->
   V.append A Hv ts x' y'=if ys.length=0 then some (x',Hv)else Kv Hv x' xs ys z'.length e:=λHv x' y' xs ys h1 h2 h3 h4 h5=>by
  unfold V.append;simp only[ht,he,q1,hnb,da];have fin:(V.rowsOf Hv x').bind (λxs=>(kp Hv y').bind λys=>
   if(xs.length+ys.length) * nb<=70368744177664/\xs.length+ys.length<9223372036854775808/\0<z'.length/\V.size A e=some z'.length/\ys.all (λr=>r.length==z'.length)then
    if ys.length=0 then some (x',Hv)else Kv Hv x' xs ys z'.length e
   else none)=if ys.length=0 then some (x',Hv)else Kv Hv x' xs ys z'.length e:=by
   rw[h1,da,h2,da,if_pos ⟨h3,h4,by rw[UX];exact fg,by rw[UX];exact eg,ec.2 λr hr=>by simp[UX,<- T8];exact h5 r hr⟩]
  cases dG:ts[1]? with
  |none=>exact fin
  |some u=>
   rw[dG]at V8;cases hu:A.P.underlying u with
   |none=>simp[hu]at V8
   |some d=>
    simp only[hu]at V8;simp only[hu];cases d<;>first|exact fin|(simp at V8)
 have hzw:z'.length=width c:=by rw[UX,T8]
 have AA:∀{y:UV},(y= .Xa\/y= .Ef)->(x= .Xa\/x= .Ef)->K x H=some out->∃v H',K v H'=some out/\H'.wm=H.wm/\∀(m:Mp)(Hv:V.AH)(x' y':V.AV),RH m H Hv->RV m x x'->RV m y y'->∃a zd,V.append A Hv ts x' y'=some (a,zd)/\Yr m Hv v H' a zd:=λ{y}hy hx h=>by
  refine⟨x,H,h,rfl,λm Hv x' y' hh OL NV=> ?_⟩;have Zy:kp Hv y'=some []:=by rcases hy with rfl|rfl<;>cases NV<;>rfl
  have jt:V.rowsOf Hv x'=some []:=by rcases hx with rfl|rfl<;>cases OL<;>rfl
  exact⟨x',Hv,by rw[lq Hv x' y' [] [] jt Zy (by simp) (by simp) (by simp)];rfl,.same hh OL⟩
 have lac:∀{m:Mp}{H0:UH}{Hv:V.AH}{x' y':V.AV}{g:List (Ib c)}{ys:List (List V.AV)},RH m H0 Hv->(x'= .Xa\/x'= .Ef)->kp Hv y'=some ys->RT m c g ys->
   g.length * nb<=70368744177664->g.length<9223372036854775808->∃a zd,V.append A Hv ts x' y'=some (a,zd)/\Yr m Hv (.all H0.bl.length) (push H0 (.cells c g)) a zd:=λ{m H0 Hv x' y' g ys}hh VX k1 k2 h1 h2=>by
  have jt:V.rowsOf Hv x'=some []:=by rcases VX with rfl|rfl<;>rfl
  have hv:=lq Hv x' y' [] ys jt k1 (by simpa[k2.1]using h1) (by simpa[k2.1]using h2) (λr hr=>k2.rows hr);by_cases JZ:g.length=0
  ·rw[if_pos (by rw[k2.1];exact JZ)]at hv;have hp:=hh.push (zd:=Hv) (y:= .cells c g) (x:=none) (n:=0) (λ_ _ _ _ _=>rfl) (ya _) rfl (λxv e=>by simp at e) ⟨by rw[Xe];exact JZ.symm,.inl ⟨JZ,lf _ _ _ _⟩⟩;refine⟨x',Hv,hv,_,hp.1,.Ug _ x' (by simp[Mp.add,Mp.Fk]) (Xe _ _ _ _) VX,hp.2,⟨Gj hh _ _,λ_ _ _=>rfl,λb _ xv hb=> ?_,ya _,rfl⟩⟩;by_cases e:b=H0.bl.length
   ·subst e;obtain⟨_,e⟩:=tn hb;simp at e
   ·rw[Mh _ _ _ e]at hb;exact .inl ⟨b,_,hb⟩
  ·rw[if_neg (by rw[k2.1];exact JZ)]at hv;refine⟨.sl Hv.bl.length 0 g.length,V.push Hv (.cells ys z'.length (some (e,1))),?_,hh.zw k2 hzw⟩;rw[hv];rcases VX with rfl|rfl<;>simp[Kv,k2.1]
 have l_:∀{g:List (Ib c)},(x= .Xa\/x= .Ef)->rowsOf H c y=some g->ask (decide (g.length * nb<=70368744177664)&&decide (g.length<9223372036854775808)) (K (.all H.bl.length) (push H (.cells c g)))=some out->
   ∃v H',K v H'=some out/\H'.wm=H.wm/\∀(m:Mp)(Hv:V.AH)(x' y':V.AV),RH m H Hv->RV m x x'->RV m y y'->∃a zd,V.append A Hv ts x' y'=some (a,zd)/\Yr m Hv v H' a zd:=λ{g}hx de h=>by
  obtain⟨h0,h⟩:=se h;simp only[Ab,decide_eq_true_eq]at h0;refine⟨_,_,h,rfl,λm Hv x' y' hh OL NV=> ?_⟩;obtain⟨ys,k1,k2⟩:=Ii de hh NV;have VX:x'= .Xa\/x'= .Ef:=by rcases hx with rfl|rfl<;>cases OL<;>simp
  exact lac hh VX k1 k2 h0.1 h0.2
 have Mw:∀{b n0 r0:Nat}{f g:List (Ib c)},(g=[]->r0=0)->H.wm<=b->rowsOf H c x=some f->rowsOf H c y=some g->(∀{m:Mp}{Hv:V.AH}{x':V.AV},RH m H Hv->RV m x x'->n0=f.length/\((∃xi,m.ι b 0=some xi/\x'= .sl xi r0 n0)\/((x'= .Xa\/x'= .Ef)/\f=[])))->(∃c' l',H.bl[b]?=some (.cells c' l')/\c'=c)->
   ask (decide ((n0+g.length) * nb<=70368744177664)&&decide (n0+g.length<9223372036854775808)) (K (.all H.bl.length) (push (Qa H b .dead) (.cells c (f++g))))=some out->
   ∃v H',K v H'=some out/\H'.wm=H.wm/\∀(m:Mp)(Hv:V.AH)(x' y':V.AV),RH m H Hv->RV m x x'->RV m y y'->∃a zd,V.append A Hv ts x' y'=some (a,zd)/\Yr m Hv v H' a zd:=λ{b n0 r0 f g}hg0 UG t_ de YX⟨c',l',hb,DB⟩h=>by
  obtain⟨h0,h⟩:=se h;simp only[Ab,decide_eq_true_eq]at h0;refine⟨_,_,h,rfl,λm Hv x' y' hh OL NV=> ?_⟩;obtain⟨ys,k1,k2⟩:=Ii de hh NV;obtain⟨xs,j1,j2⟩:=Ii t_ hh OL;have Oe:live H b:=⟨_,hb,rfl⟩;have qq:=hh.kill b;have Vk:∀{b'},live (Qa H b .dead) b'->b'≠b/\live H b':=λh=>by
   rcases Qg h with⟨_,h'⟩|h'
   ·simp[Me]at h'
   ·exact h'
  have hlen:(Qa H b .dead).bl.length=H.bl.length:=by simp[Qa]
  obtain⟨JO,YX⟩:=YX hh OL;rcases YX with⟨xi,Cg,rfl⟩|⟨VX,rfl⟩
  ·have j1':V.rowsOf Hv (.sl xi r0 n0)=some xs:=j1;have oam:=hh.wm b xi Cg UG;subst DB;obtain⟨kb,kx⟩:=jd (s:=⟨[],[],H,0⟩) (sv:=⟨[],[],Hv⟩) hh hb;obtain⟨rows,ty,i2,i3,i4⟩:=kx xi Cg;have xO:Hv.bl[xi]?=some (.cells rows (width c') ty):=i2;have hv:=lq Hv (.sl xi r0 n0) y' xs ys j1' k1 (by rw[j2.1,k2.1,<- JO];exact h0.1) (by rw[j2.1,k2.1,<- JO];exact h0.2) (λr hr=>k2.rows hr);by_cases JZ:g.length=0
   ·rw[if_pos (by rw[k2.1];exact JZ)]at hv;have vu:g=[]:=Gb.1 JZ;have i_:=hg0 vu;subst i_;subst vu;rw[List.append_nil];have hp:=qq.push (zd:=Hv) (y:= .cells c' f) (x:=some xi) (n:=f.length) (λ_ _ _ _ _=>rfl) (ya _) rfl (λxv e=>by
     simp at e;subst e;exact⟨(hh.Ff b xi Cg).2,oam,λb' s' Fg e'=>(Vk Fg).1 (hh.inj b' b xi (Vk Fg).2 Oe e' Cg)⟩) (by
     have IV:=j1';simp only[V.rowsOf,xO]at IV;split at IV
     case isFalse=>simp at IV
     rename_i hle;simp at IV;refine⟨Xe _ _ _ _,.inr ⟨xi,rows,ty,lf _ _ _ _,xO,by omega,?_⟩⟩;refine⟨λi _=>⟨kg _ _ _,Te _ _ _⟩,λi row hi hr=> ?_,λi row k y a hi hr h1 h2=> ?_⟩
     ·have:xs[i]?=some row:=by rw[<- IV,Jb,if_pos (by omega)];exact hr
      exact j2.rows (Eb this)
     ·have:xs[i]?=some row:=by rw[<- IV,Jb,if_pos (by omega)];exact hr
      exact((j2.get this).free _ (Te _ _ _)).2 k y a h1 h2)
    rw[hlen]at hp;refine⟨.sl xi 0 n0,Hv,hv,_,hp.1,?_,hp.2,⟨by have:=Gj qq;simpa only[hlen]using this _ _,λ_ _ _=>rfl,λb' _ xv Wd=> ?_,ya _,rfl⟩⟩
    ·have:=RV.all (m:=m.add H.bl.length (some xi) f.length) H.bl.length xi (lf _ _ _ _);rw[Xe,<- JO]at this;rw[JO]at this ⊢;exact this
    ·by_cases e:b'=H.bl.length
     ·subst e;obtain⟨_,e⟩:=tn Wd;simp at e;subst e;exact .inl ⟨b,_,Cg⟩
     ·rw[Mh _ _ _ e]at Wd;exact .inl ⟨b',_,Wd⟩
   ·rw[if_neg (by rw[k2.1];exact JZ)]at hv;have Ae:=qq.other (x:=xi) (λb' s' Fg e'=>(Vk Fg).1 (hh.inj b' b xi (Vk Fg).2 Oe e' Cg)) .dead;have gf:=Ae.zw (j2.append k2) (zl:=z'.length) hzw (ty:=V.mB (V.ZH Hv xi) e r0);rw[hlen]at gf;have PV:(V.Qa Hv xi .dead).bl.length=Hv.bl.length:=by simp[V.Qa]
    rw[PV]at gf;obtain⟨m',e1,e2,e3,e4⟩:=gf;have g1:gm m.top m Hv m (V.Qa Hv xi .dead):=⟨.refl (ya _),λx' Eg MZ=>by rw[Cd,if_neg (λe=>MZ b 0 (by rw[<- e];exact Cg))],λb' s' x' Wd=> .inl ⟨b',s',Wd⟩,by simp[V.Qa],rfl⟩;refine⟨_,_,?_,m',e1,e2,e3,g1.trans e4 (ya _)⟩;rw[hv];simp only[Kv];rw[if_pos ⟨oam,by simp only[V.Qk,xO];rw[hzw]⟩,j2.1,k2.1,oe]
  ·rw[List.nil_append];simp only[Om]at JO;have:=lac qq VX k1 k2 (by simpa[JO]using h0.1) (by simpa[JO]using h0.2);rw[hlen]at this;exact this
 have oS:∀{y:UV},(y= .Xa\/y= .Ef)->((rowsOf H c x).bind λf=>ask (decide (f.length * nb<=70368744177664)&&decide (f.length<9223372036854775808)) (K x H))=some out->(∀s,x≠ .str s)->
   ∃v H',K v H'=some out/\H'.wm=H.wm/\∀(m:Mp)(Hv:V.AH)(x' y':V.AV),RH m H Hv->RV m x x'->RV m y y'->∃a zd,V.append A Hv ts x' y'=some (a,zd)/\Yr m Hv v H' a zd:=λ{y}hy h GO=>by
  simp only[aa]at h;obtain⟨f,hf,h⟩:=h;obtain⟨h0,h⟩:=se h;simp only[Ab,decide_eq_true_eq]at h0;refine⟨x,H,h,rfl,λm Hv x' y' hh OL NV=> ?_⟩;have Zy:kp Hv y'=some []:=by rcases hy with rfl|rfl<;>cases NV<;>rfl
  obtain⟨xs,j1,j2⟩:=Ii hf hh OL;have j1':V.rowsOf Hv x'=some xs:=by
   cases x'<;>first|exact j1|skip
   cases OL with
   |str=>exact(GO _ rfl).elim
   |Dc=>simp[rowsOf]at hf
   |iw _ _ _ ha=>simp at ha
   |Ug _ _ _ _ ha=>simp at ha
   |Dv _ _ _ _ _ ha=>simp at ha
   |bh _ _ ha=>simp at ha
  exact⟨x',Hv,by rw[lq Hv x' y' xs [] j1' Zy (by simpa[j2.1]using h0.1) (by simpa[j2.1]using h0.2) (by simp)];rfl,.same hh OL⟩
 split at h
 ·rename_i b c' a l hdy;split at h
  case isFalse=>simp at h
  rename_i Kj;simp only[aa]at h;obtain⟨⟨f,H0⟩,hX,h⟩:=h;obtain⟨h0,h⟩:=se h;simp only[Ab,decide_eq_true_eq]at h0;obtain⟨rfl,hb,UG⟩:=WQ hdy;have hX:=XQ hX;refine⟨_,_,h,by rcases hX with⟨_,_,rfl⟩|⟨_,_,_,_,_,rfl⟩<;>rfl,λm Hv x' y' hh OL NV=> ?_⟩;obtain⟨k0,k1,kx⟩:=Ie (s:=⟨[],[],H,0⟩) (sv:=⟨[],[],Hv⟩) hh hb;obtain⟨_,b0,_⟩:=hh.Kf b _ hb;have aW:live H b:=⟨_,hb,rfl⟩;cases NV with
  |Ug _ _ _ hl _=>rw[k0]at hl;simp at hl
  |all _ xb uB=>
   obtain⟨mw,tyb,i2,i3,i4⟩:=kx xb uB;have xO:Hv.bl[xb]?=some (.cells mw 1 tyb):=i2;have Zy:kp Hv (.sl xb 0 (m.len b 0))=some (mw.take (a::l).length):=by
    show V.rowsOf Hv (.sl xb 0 (m.len b 0))=_;simp only[V.rowsOf,xO];rw[k0,if_pos (by omega)];simp
   have AO:(mw.take (a::l).length).length=(a::l).length:=by rw[je];omega
   have NV:∀r,r<(a::l).length->∃a',(mw.take (a::l).length)[r]?=some [a']/\Jm m Hv (m.ι b (r+1)) c' ((a::l).getD r []) a':=λr hr=>by
    obtain⟨a',j1,j2⟩:=i4 r hr;exact⟨a',by rw[Jb,if_pos hr];exact j1,j2⟩
   have pam:∀r∈mw.take (a::l).length,r.length=width c:=λr hr=>by
    obtain⟨i,hi⟩:=Ve hr;have hil:=Za hi;rw[AO]at hil;obtain⟨a',j1,_⟩:=NV i hil;rw[hi]at j1;simp at j1;subst j1;rw[Kj];rfl
   have MV:z'.length=1:=by rw[hzw,Kj];rfl
   have hFy:∀{H0:UH}{nY:V.AH},(∀{b'},live H0 b'->b'≠b/\live H b')->nY.wm=Hv.wm->∀r x,m.ι b (r+1)=some x->Yab m H0 nY x:=λ{H0 nY}Vk Th r x hx=>⟨⟨b,_,hx⟩,by rw[Th];exact hh.wm b x hx UG,λb' s' Fg e'=>(Vk Fg).1 (hh.inj b' b x (Vk Fg).2 aW e' hx)⟩
   have hyi:∀r r' x,m.ι b (r+1)=some x->m.ι b (r'+1)=some x->r=r':=λr r' x e e'=>by have:=(hh.Ao b b x aW aW e e').2;omega
   have JZ:¬(mw.take (a::l).length).length=0:=by rw[AO];simp
   have onN:∀{H0:UH},RH m H0 Hv->(∀{b'},live H0 b'->b'≠b/\live H b')->(x'= .Xa\/x'= .Ef)->(a::l).length * nb<=70368744177664->(a::l).length<9223372036854775808->∃a' zd,V.append A Hv ts x' (.sl xb 0 (m.len b 0))=some (a',zd)/\Yr m Hv (.all H0.bl.length) (push H0 (.deep c' ([]++a::l))) a' zd:=λ{H0}hh0 Vk VX q1 q2=>by
    have jt:V.rowsOf Hv x'=some []:=by rcases VX with rfl|rfl<;>rfl
    have hv:=lq Hv x' _ [] _ jt Zy (by rw[AO];simpa using q1) (by rw[AO];simpa using q2) pam;rw[if_neg JZ]at hv;have hj:=GH (f:=[]) (g:=a::l) (xs:=[]) (ys:=mw.take (a::l).length) (Fx:=λ_=>none) (Fy:=λr=>m.ι b (r+1)) (ty:=some (e,1)) hh0 rfl AO (λr x hr=>by simp at hr) (hFy Vk rfl) (λr r' x hr=>by simp at hr) hyi (λr r' x hr=>by simp at hr) (λr hr=>(b0 r).2 hr) (λr hr=>by simp at hr) NV;refine⟨.sl Hv.bl.length 0 ([]++a::l).length,V.push Hv (.cells ([]++mw.take (a::l).length) 1 (some (e,1))),?_,hj⟩;rw[hv];rcases VX with rfl|rfl<;>simp only[Kv,AO,MV,List.nil_append]
   rcases hX with⟨VX,rfl,rfl⟩|⟨b1,rfl,nr,td,qam,rfl⟩
   ·have Kaq:x'= .Xa\/x'= .Ef:=by rcases VX with rfl|rfl<;>cases OL<;>simp
    exact onN (hh.kill b) (λh=>by rcases Qg h with⟨_,h'⟩|h';simp[Me]at h';exact h') Kaq (by simpa using h0.1) (by simpa using h0.2)
   ·have WL:live H b1:=⟨_,nr,rfl⟩;have hh0:=(hh.kill b1).kill b;have Vk:∀{b'},live (Qa (Qa H b1 .dead) b .dead) b'->b'≠b/\b'≠b1/\live H b':=λh=>by
     rcases Qg h with⟨_,h'⟩|⟨h1,h'⟩
     ·simp[Me]at h'
     ·rcases Qg h' with⟨_,h'⟩|⟨h2,h'⟩
      ·simp[Me]at h'
      ·exact⟨h1,h2,h'⟩
    obtain⟨q0,q1,qx⟩:=Ie (s:=⟨[],[],H,0⟩) (sv:=⟨[],[],Hv⟩) hh nr;cases OL with
    |Ug _ _ _ hl ha=>
     have hf:f=[]:=by rw[q0]at hl;exact Gb.1 hl
     subst hf;exact onN hh0 (λh=>⟨(Vk h).1,(Vk h).2.2⟩) ha (by simpa using h0.1) (by simpa using h0.2)
    |all _ x1 aj=>
     obtain⟨Rq,ty1,p2,p3,p4⟩:=qx x1 aj;have p2':Hv.bl[x1]?=some (.cells Rq 1 ty1):=p2;have jt:V.rowsOf Hv (.sl x1 0 (m.len b1 0))=some (Rq.take f.length):=by
      simp only[V.rowsOf,p2'];rw[q0,if_pos (by omega)];simp
     have tZ:(Rq.take f.length).length=f.length:=by rw[je];omega
     have hv:=lq Hv (.sl x1 0 (m.len b1 0)) _ _ _ jt Zy (by rw[tZ,AO];exact h0.1) (by rw[tZ,AO];exact h0.2) pam;rw[if_neg JZ]at hv;have vZ:=hh.wm b1 x1 aj qam;have Ae:=hh0.other (x:=x1) (λb' s' Fg e'=>(Vk Fg).2.1 (hh.inj b' b1 x1 (Vk Fg).2.2 WL e' aj)) .dead;have Ec:∀{b' s':Nat}{x:Nat},m.ι b' (s'+1)=some x->(b'=b\/b'=b1)->(V.Qa Hv x1 .dead).bl[x]?=Hv.bl[x]?:=λ{b' s' x}e hbb=>by
      rw[Cd,if_neg]
      rintro rfl
      rcases hbb with rfl|rfl
      ·exact td ((hh.inj b' b1 x1 aW WL e aj).symm)
      ·have:=(hh.Ao b' b' x1 WL WL e aj).2;omega
     have hj:=GH (f:=f) (g:=a::l) (xs:=Rq.take f.length) (ys:=mw.take (a::l).length) (Fx:=λr=>m.ι b1 (r+1)) (Fy:=λr=>m.ι b (r+1)) (ty:=V.mB (V.ZH Hv x1) e 0) Ae tZ AO
      (λr x _ hx=>⟨⟨b1,_,hx⟩,hh.wm b1 x hx qam,λb' s' Fg e'=>(Vk Fg).2.1 (hh.inj b' b1 x (Vk Fg).2.2 WL e' hx)⟩)
      (hFy (λh=>⟨(Vk h).1,(Vk h).2.2⟩) rfl) (λr r' x _ _ e e'=>by have:=(hh.Ao b1 b1 x WL WL e e').2;omega) hyi (λr r' x _ e e'=>td (hh.inj b1 b x WL aW e e')) (λr hr=>(b0 r).2 hr)
      (λr hr=>by
       obtain⟨a',j1,j2⟩:=p4 r hr;exact⟨a',by rw[Jb,if_pos hr];exact j1,j2.keep (λ_ _ _ h=>h) λx hx=>Ec hx (.inr rfl)⟩)
      (λr hr=>by
       obtain⟨a',j1,j2⟩:=NV r hr;exact⟨a',j1,j2.keep (λ_ _ _ h=>h) λx hx=>Ec hx (.inl rfl)⟩)
     have PV:(V.Qa Hv x1 .dead).bl.length=Hv.bl.length:=by simp[V.Qa]
     rw[PV]at hj;obtain⟨m',e1,e2,e3,e4⟩:=hj;have g1:gm m.top m Hv m (V.Qa Hv x1 .dead):=⟨.refl (ya _),λx' Eg MZ=>by rw[Cd,if_neg (λe=>MZ b1 0 (by rw[<- e];exact aj))],λb' s' x' Wd=> .inl ⟨b',s',Wd⟩,by simp[V.Qa],rfl⟩;refine⟨_,_,?_,m',e1,e2,e3,g1.trans e4 (ya _)⟩;rw[hv];simp only[Kv];rw[if_pos ⟨vZ,by simp only[V.Qk,p2'];rw[MV]⟩,tZ,AO,MV,oe]
 rename_i hdy;split at h
 ·split at h
  ·exact AA (.inl rfl) (.inl rfl) h
  ·exact AA (.inl rfl) (.inr rfl) h
  ·split at h
   ·simp at h
   ·rename_i GO;exact oS (.inl rfl) h λs e=>GO s e
 ·split at h
  ·exact AA (.inr rfl) (.inl rfl) h
  ·exact AA (.inr rfl) (.inr rfl) h
  ·split at h
   ·simp at h
   ·rename_i GO;exact oS (.inr rfl) h λs e=>GO s e
 ·simp only[aa]at h;obtain⟨g,hg,h⟩:=h;split at h
  ·exact l_ (.inl rfl) hg h
  ·exact l_ (.inr rfl) hg h
  ·rename_i b r0 n0;simp only[aa]at h;obtain⟨_,h0,h⟩:=h;split at h
   case isFalse=>simp at h
   rename_i hw;simp only[aa]at h;obtain⟨f,hf,h⟩:=h;have hf0:=hf;simp only[rowsOf]at hf;split at hf
   case h_2=>simp at hf
   rename_i c' l hb;split at hf
   case isFalse=>simp at hf
   rename_i hc;subst hc;simp at hf;subst hf;refine Mw (r0:=r0) (λe=>by subst e;cases r0<;>simp at h0 ⊢) hw hf0 hg (λ{m Hv x'}hh hx=> ?_) ⟨_,_,hb,rfl⟩ h;obtain⟨k0,_⟩:=jd (s:=⟨[],[],H,0⟩) (sv:=⟨[],[],Hv⟩) hh hb;cases hx with
   |sl _ _ _ xi Cg hle=>exact⟨by rw[Ej];simp;omega,.inl ⟨xi,Cg,rfl⟩⟩
   |iw _ _ _ ha=>exact⟨by rw[Ej];simp,.inr ⟨ha,by rw[Ej];simp⟩⟩
  ·rename_i b _ _;split at h
   case isFalse=>simp at h
   rename_i hw;simp only[aa]at h;obtain⟨f,hf,h⟩:=h;have hf0:=hf;simp only[rowsOf]at hf;split at hf
   case h_2=>simp at hf
   rename_i c' l hb;split at hf
   case isFalse=>simp at hf
   rename_i hc;subst hc;simp at hf;subst hf;refine Mw (λ_=>rfl) hw hf0 hg (λ{m Hv x'}hh hx=> ?_) ⟨_,_,hb,rfl⟩ h;obtain⟨k0,_⟩:=jd (s:=⟨[],[],H,0⟩) (sv:=⟨[],[],Hv⟩) hh hb;cases hx with
   |all _ xi Cg=>exact⟨rfl,.inl ⟨xi,Cg,by rw[k0]⟩⟩
   |Ug _ _ _ hl ha=>exact⟨rfl,.inr ⟨ha,Gb.1 (by omega)⟩⟩
  ·simp at h
end
end Go.U
