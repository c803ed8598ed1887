/- What these Lean functions compute: plain arithmetic of congruences, the checks of a graph, the values of its registers. -/
import Derived.Test.YtjenflkegbmkkaaGreatDoorD3
set_option linter.unusedVariables false
set_option linter.unusedSimpArgs false
set_option linter.unusedSectionVars false
section
set_option maxRecDepth 20000
namespace Go.U
open Go
structure M where
 fu:Int
 at_:Int
 en:Int
 si:Int
 ki:Int
 ti:Int
 re:Int
 rg:List Int
 ar:List (List Int)
 ma:List (List Int)
def half (t:Int):Int:=if t=1 then 128 else if t=2 then 32768 else 2147483648
def wtn (x t:Int):Bool:=decide (-(half t)<=x)&&decide (x<half t)
theorem f77_eq (x t:Int) (h1:1<=t) (h3:t<=3):f77_m (x,t)=some (wtn x t):=by
 have key:∀ y:Int,f77_m (x,y)=(ask (decide ((0:Int)<=(wu64 y))) (ask (decide ((0:Int)<=(wu64 ((wu64 (4 * 2^min (Int.toNat (wu64 y)) 64))-(1:Int))))) (cond (decide ((wi64 ((0:Int)-(wi64 (1 * 2^min (Int.toNat (wu64 ((wu64 (4 * 2^min (Int.toNat (wu64 y)) 64))-(1:Int)))) 64))))<=x))
   (some (decide (x<(wi64 (1 * 2^min (Int.toNat (wu64 ((wu64 (4 * 2^min (Int.toNat (wu64 y)) 64))-(1:Int)))) 64))))) (some false)))):=fun y=>rfl
 rw [key];unfold wtn half;obtain rfl|rfl|rfl:t=1\/t=2\/t=3:=by omega
 · have e:wi64 (1 * 2^min (Int.toNat (wu64 ((wu64 (4 * 2^min (Int.toNat (wu64 1)) 64))-(1:Int)))) 64)=128:=by decide
   rw [e];have e2:wi64 (0-128)= -128:=by decide
   have d1:(0:Int)<=wu64 1:=by decide
   have d2:(0:Int)<=wu64 (wu64 (4 * 2^min (Int.toNat (wu64 1)) 64)-1):=by decide
   rw [e2,decide_eq_true d1,decide_eq_true d2,ask_true,ask_true];by_cases h:(-128:Int)<=x<;>simp [h]
 · have e:wi64 (1 * 2^min (Int.toNat (wu64 ((wu64 (4 * 2^min (Int.toNat (wu64 2)) 64))-(1:Int)))) 64)=32768:=by decide
   rw [e];have e2:wi64 (0-32768)= -32768:=by decide
   have d1:(0:Int)<=wu64 2:=by decide
   have d2:(0:Int)<=wu64 (wu64 (4 * 2^min (Int.toNat (wu64 2)) 64)-1):=by decide
   rw [e2,decide_eq_true d1,decide_eq_true d2,ask_true,ask_true];by_cases h:(-32768:Int)<=x<;>simp [h]
 · have e:wi64 (1 * 2^min (Int.toNat (wu64 ((wu64 (4 * 2^min (Int.toNat (wu64 3)) 64))-(1:Int)))) 64)=2147483648:=by decide
   rw [e];have e2:wi64 (0-2147483648)= -2147483648:=by decide
   have d1:(0:Int)<=wu64 3:=by decide
   have d2:(0:Int)<=wu64 (wu64 (4 * 2^min (Int.toNat (wu64 3)) 64)-1):=by decide
   rw [e2,decide_eq_true d1,decide_eq_true d2,ask_true,ask_true];by_cases h:(-2147483648:Int)<=x<;>simp [h]
abbrev M.rd (m:M) (i:Int):Int:=gx m.rg i.toNat 0
def M.wr (m:M) (i v:Int):M:={ m with rg:=m.rg.set i.toNat v }
def M.fail (m:M) (site kind:Int):M:={ m with en:=1,si:=site,ki:=kind }
def tst (num a b:Int):Bool:=
 if num=14 then decide (a=b) else if num=15 then !(decide (a=b)) else if num=16 then decide (a<b) else if num=17 then decide (a<=b) else if num=18 then decide (b<a) else decide (b<=a)
def M.ari (m:M) (x:TInstr) (v:Int) (chk:Bool):M:=cond (chk&& !(wtn v 3)) (m.fail x.2.2.2.2.2.1 1) (m.wr x.2.1 v)
def M.spend (m:M):M:=if m.fu=0 then { m with en:=4 } else { m with fu:=m.fu-1 }
def stepI (g:TGraph) (sc:List Int) (x:TInstr) (m:M):M:=
 let a:=m.rd x.2.2.1
 let b:=m.rd x.2.2.2.1
 if x.1=1 then m.wr x.2.1 x.2.2.2.2.1
 else if x.1=2 then m.ari x (wi64 (0-a)) true
 else if x.1=3 then m.ari x (if wi64 (0-a)>a then wi64 (0-a) else a) true
 else if x.1=4 then m.ari x (wi64 (a+b)) true
 else if x.1=5 then m.ari x (wi64 (a-b)) true
 else if x.1=6 then m.ari x (wi64 (a * b)) true
 else if x.1=7 then (if b=0 then m.fail x.2.2.2.2.2.1 2 else if a= -2147483648/\b= -1 then m.fail x.2.2.2.2.2.1 3 else m.wr x.2.1 (wi64 (Int.tdiv a b)))
 else if x.1=8 then (if b=0 then m.fail x.2.2.2.2.2.1 2 else m.wr x.2.1 (Int.tmod a b))
 else if x.1=9 then m.ari x (if b<a then b else a) false
 else if x.1=10 then m.ari x (if b>a then b else a) false
 else if x.1=11 then (if b<0\/(gx (inps g) x.2.2.1.toNat dInput).2.2.1<=b then m.fail x.2.2.2.2.2.1 4 else m.wr x.2.1 (gx (gx m.ar x.2.2.1.toNat []) b.toNat 0))
 else if x.1=12 then
  (if m.re=sc.length then { m with en:=2 }
   else if gx sc m.re.toNat 0<(gx (arrs g) x.2.2.1.toNat dInput).2.2.1\/(gx (arrs g) x.2.2.1.toNat dInput).2.2.2<gx sc m.re.toNat 0 then { m with en:=5,re:=m.re+1 }
   else { m with re:=m.re+1,rg:=m.rg.set x.2.1.toNat (gx sc m.re.toNat 0) })
 else if x.1=13 then (if wtn a (gx (scs g) x.2.1.toNat dScalar).2.1=true then m.wr x.2.1 a else m.fail x.2.2.2.2.2.1 1)
 else if x.1=14 then
  (if b<0\/(gx (inps g) x.2.2.1.toNat dInput).2.2.1<=b then m.fail x.2.2.2.2.2.1 4
   else if wtn (m.rd x.2.1) (gx (inps g) x.2.2.1.toNat dInput).2.1=true then { m with ar:=m.ar.set x.2.2.1.toNat ((gx m.ar x.2.2.1.toNat []).set b.toNat (m.rd x.2.1)) } else m.fail x.2.2.2.2.2.1 1)
 else if x.1=15 then (if tst x.2.2.2.2.1 a b=true then m else { m with at_:=x.2.2.2.2.2.2.2 })
 else if x.1=17 then
  (if ¬ g.2.2.2.1=0/\m.ti=g.2.2.2.1 then { m with en:=3 }
   else if m.fu=0 then { m with en:=4 }
   else if m.ma.length<64 then { m with fu:=m.fu-1,ma:=m.ma++[m.rg.take (scs g).length] } else { m with fu:=m.fu-1 })
 else if x.1=18 then { m with ti:=wi64 (m.ti+1) }
 else if x.1=20 then m.spend
 else if x.1=21 then m.fail x.2.2.2.2.2.1 5
 else m
abbrev nx0 (x:TInstr):Int:=x.2.2.2.2.2.2.1
abbrev M.to (m:M) (n:Int):M:={ m with at_:=n }
def step (g:TGraph) (sc:List Int) (m:M):M:=stepI g sc (at' g m.at_.toNat) (m.to (nx0 (at' g m.at_.toNat)))
structure Inv (g:TGraph) (sc:List Int) (m:M):Prop where
 at0:m.en=0->0<=m.at_/\m.at_<(g.1.length:Int)
 rg:(m.rg.length:Int)=g.2.2.1
 al:m.ar.length=(inps g).length
 az:∀ i,i<(inps g).length->((gx m.ar i []).length:Int)=(gx (inps g) i dInput).2.2.1
 ma:m.ma.length<=64
 re:0<=m.re/\m.re<=sc.length
 fu:0<=m.fu/\m.fu<=1000000
 er:m.en=1->∃ j,j<g.1.length/\m.si=(at' g j).2.2.2.2.2.1/\1<=m.ki/\m.ki<=5
end Go.U
end
section
set_option maxRecDepth 20000
namespace Go.U
open Go
section
variable {x:TInstr} {c:Bool} {g1:List TInstr} {g2 g3 g4:Int} {g5:List TInput} {g6:List TScalar} {g7:List TInput} {g8:List TAlarm} {sc:List Int} {fu nx en si ki ti re:Int} {rg:List Int} {ar ma:List (List Int)}
theorem ask_eq {X:Type} {b:Bool} {y:Option X} (h:b=true):ask b y=y:=by subst h;rfl
def arR (c:Bool) (x:TInstr) (v en si ki:Int) (rg:List Int):Int×Int×Int×List Int:=cond (c&& !(wtn v 3)) (1,x.2.2.2.2.2.1,1,rg) (en,si,ki,rg.set x.2.1.toNat v)
theorem f80v1_eq (h:V.inRange x.2.1 rg.length=true):f80v1_m (x,g1,g2,g3,g4,g5,g6,g7,g8,sc,fu,nx,en,si,ki,ti,re,rg,ar,ma)=some (rg.set x.2.1.toNat x.2.2.2.2.1):=by
 simp only [f80v1_m,f80v1_c,h,ask_true]
section
variable (ha:V.inRange x.2.2.1 rg.length=true) (hb:V.inRange x.2.2.2.1 rg.length=true) (hd:V.inRange x.2.1 rg.length=true)
include ha hb hd
theorem f76v7_eq:f76v7_m (x,c,g1,g2,g3,g4,g5,g6,g7,g8,sc,fu,nx,en,si,ki,ti,re,rg,ar,ma)=some (arR c x (wi64 (0-gx rg x.2.2.1.toNat 0)) en si ki rg):=by
 simp only [f76v7_m,f76v7_c,ha,hb,hd,ask_true,f77_eq _ 3 (by decide) (by decide),Option.bind_some,arR];cases c<;>cases wtn (wi64 (0-gx rg x.2.2.1.toNat 0)) 3<;>rfl
theorem f76v8_eq:f76v8_m (x,c,g1,g2,g3,g4,g5,g6,g7,g8,sc,fu,nx,en,si,ki,ti,re,rg,ar,ma)=some (arR c x (if wi64 (0-gx rg x.2.2.1.toNat 0)>gx rg x.2.2.1.toNat 0 then wi64 (0-gx rg x.2.2.1.toNat 0) else gx rg x.2.2.1.toNat 0) en si ki rg):=by
 simp only [f76v8_m,f76v8_c,ha,hb,hd,ask_true,f77_eq _ 3 (by decide) (by decide),Option.bind_some,arR];generalize (if wi64 (0-gx rg x.2.2.1.toNat 0)>gx rg x.2.2.1.toNat 0 then wi64 (0-gx rg x.2.2.1.toNat 0) else gx rg x.2.2.1.toNat 0)=v;cases c<;>cases wtn v 3<;>rfl
theorem f76v9_eq:f76v9_m (x,c,g1,g2,g3,g4,g5,g6,g7,g8,sc,fu,nx,en,si,ki,ti,re,rg,ar,ma)=some (arR c x (wi64 (gx rg x.2.2.1.toNat 0+gx rg x.2.2.2.1.toNat 0)) en si ki rg):=by
 simp only [f76v9_m,f76v9_c,ha,hb,hd,ask_true,f77_eq _ 3 (by decide) (by decide),Option.bind_some,arR];cases c<;>cases wtn (wi64 (gx rg x.2.2.1.toNat 0+gx rg x.2.2.2.1.toNat 0)) 3<;>rfl
theorem f76v10_eq:f76v10_m (x,c,g1,g2,g3,g4,g5,g6,g7,g8,sc,fu,nx,en,si,ki,ti,re,rg,ar,ma)=some (arR c x (wi64 (gx rg x.2.2.1.toNat 0-gx rg x.2.2.2.1.toNat 0)) en si ki rg):=by
 simp only [f76v10_m,f76v10_c,ha,hb,hd,ask_true,f77_eq _ 3 (by decide) (by decide),Option.bind_some,arR];cases c<;>cases wtn (wi64 (gx rg x.2.2.1.toNat 0-gx rg x.2.2.2.1.toNat 0)) 3<;>rfl
theorem f76v11_eq:f76v11_m (x,c,g1,g2,g3,g4,g5,g6,g7,g8,sc,fu,nx,en,si,ki,ti,re,rg,ar,ma)=some (arR c x (wi64 (gx rg x.2.2.1.toNat 0 * gx rg x.2.2.2.1.toNat 0)) en si ki rg):=by
 simp only [f76v11_m,f76v11_c,ha,hb,hd,ask_true,f77_eq _ 3 (by decide) (by decide),Option.bind_some,arR];cases c<;>cases wtn (wi64 (gx rg x.2.2.1.toNat 0 * gx rg x.2.2.2.1.toNat 0)) 3<;>rfl
theorem f76v12_eq:f76v12_m (x,c,g1,g2,g3,g4,g5,g6,g7,g8,sc,fu,nx,en,si,ki,ti,re,rg,ar,ma)=some (arR c x (if gx rg x.2.2.2.1.toNat 0<gx rg x.2.2.1.toNat 0 then gx rg x.2.2.2.1.toNat 0 else gx rg x.2.2.1.toNat 0) en si ki rg):=by
 simp only [f76v12_m,f76v12_c,ha,hb,hd,ask_true,f77_eq _ 3 (by decide) (by decide),Option.bind_some,arR];generalize (if gx rg x.2.2.2.1.toNat 0<gx rg x.2.2.1.toNat 0 then gx rg x.2.2.2.1.toNat 0 else gx rg x.2.2.1.toNat 0)=v;cases c<;>cases wtn v 3<;>rfl
theorem f76v13_eq:f76v13_m (x,c,g1,g2,g3,g4,g5,g6,g7,g8,sc,fu,nx,en,si,ki,ti,re,rg,ar,ma)=some (arR c x (if gx rg x.2.2.2.1.toNat 0>gx rg x.2.2.1.toNat 0 then gx rg x.2.2.2.1.toNat 0 else gx rg x.2.2.1.toNat 0) en si ki rg):=by
 simp only [f76v13_m,f76v13_c,ha,hb,hd,ask_true,f77_eq _ 3 (by decide) (by decide),Option.bind_some,arR];generalize (if gx rg x.2.2.2.1.toNat 0>gx rg x.2.2.1.toNat 0 then gx rg x.2.2.2.1.toNat 0 else gx rg x.2.2.1.toNat 0)=v;cases c<;>cases wtn v 3<;>rfl
theorem f86v1_eq7 (h7:x.1=7):f86v1_m (x,g1,g2,g3,g4,g5,g6,g7,g8,sc,fu,nx,en,si,ki,ti,re,rg,ar,ma)=some (if gx rg x.2.2.2.1.toNat 0=0 then (1,x.2.2.2.2.2.1,2,rg) else if gx rg x.2.2.1.toNat 0= -2147483648/\gx rg x.2.2.2.1.toNat 0= -1 then (1,x.2.2.2.2.2.1,3,rg) else (en,si,ki,rg.set x.2.1.toNat (wi64 (Int.tdiv (gx rg x.2.2.1.toNat 0) (gx rg x.2.2.2.1.toNat 0))))):=by
 simp only [f86v1_m,f86v1_c,ha,hb,hd,ask_true,h7];by_cases h0:gx rg x.2.2.2.1.toNat 0=0
 · simp [h0]
 · by_cases h1:gx rg x.2.2.1.toNat 0= -2147483648
   · by_cases h2:gx rg x.2.2.2.1.toNat 0= -1
     · simp [h1,h2]
     · simp [h0,h1,h2]
   · simp [h0,h1]
theorem f86v1_eq8 (h8:x.1=8):f86v1_m (x,g1,g2,g3,g4,g5,g6,g7,g8,sc,fu,nx,en,si,ki,ti,re,rg,ar,ma)=some (if gx rg x.2.2.2.1.toNat 0=0 then (1,x.2.2.2.2.2.1,2,rg) else (en,si,ki,rg.set x.2.1.toNat (Int.tmod (gx rg x.2.2.1.toNat 0) (gx rg x.2.2.2.1.toNat 0)))):=by
 simp only [f86v1_m,f86v1_c,ha,hb,hd,ask_true,h8];by_cases h0:gx rg x.2.2.2.1.toNat 0=0<;>simp [h0]
end
theorem f124v1_eq (hb:V.inRange x.2.2.2.1 rg.length=true) (hA:V.inRange x.2.2.1 g7.length=true) (hr:V.inRange x.2.2.1 ar.length=true) (hl:((gx ar x.2.2.1.toNat []).length:Int)=(gx g7 x.2.2.1.toNat dInput).2.2.1):
   f124v1_m (x,g1,g2,g3,g4,g5,g6,g7,g8,sc,fu,nx,en,si,ki,ti,re,rg,ar,ma)=some (if gx rg x.2.2.2.1.toNat 0<0\/(gx g7 x.2.2.1.toNat dInput).2.2.1<=gx rg x.2.2.2.1.toNat 0 then .inl () else .inr (x.2.2.1.toNat,(gx rg x.2.2.2.1.toNat 0).toNat)):=by
 simp only [f124v1_m,f124v1_c,hb,hA,hr,ask_true];by_cases h1:gx rg x.2.2.2.1.toNat 0<0
 · simp [h1]
 · by_cases h2:(gx g7 x.2.2.1.toNat dInput).2.2.1<=gx rg x.2.2.2.1.toNat 0
   · simp [h1,h2]
   · simp only [h1,h2,decide_false,cond_false,inRI (show 0<=gx rg x.2.2.2.1.toNat 0 by omega) (show gx rg x.2.2.2.1.toNat 0<((gx ar x.2.2.1.toNat []).length:Int) by omega),ask_true,or_self,if_false]
theorem f89v1_eq (hb:V.inRange x.2.2.2.1 rg.length=true) (hA:V.inRange x.2.2.1 g7.length=true) (hr:V.inRange x.2.2.1 ar.length=true) (hl:((gx ar x.2.2.1.toNat []).length:Int)=(gx g7 x.2.2.1.toNat dInput).2.2.1) (hd:V.inRange x.2.1 rg.length=true):
   f89v1_m (x,g1,g2,g3,g4,g5,g6,g7,g8,sc,fu,nx,en,si,ki,ti,re,rg,ar,ma)=some (if gx rg x.2.2.2.1.toNat 0<0\/(gx g7 x.2.2.1.toNat dInput).2.2.1<=gx rg x.2.2.2.1.toNat 0 then (1,x.2.2.2.2.2.1,4,rg) else (en,si,ki,rg.set x.2.1.toNat (gx (gx ar x.2.2.1.toNat []) (gx rg x.2.2.2.1.toNat 0).toNat 0))):=by
 simp only [f89v1_m,f89v1_c,f124v1_eq hb hA hr hl,Option.bind_some];split
 · rfl
 · simp only [Sum.elim_inr,hd,ask_true]
theorem f92v1_eq (hb:V.inRange x.2.2.2.1 rg.length=true) (hA:V.inRange x.2.2.1 g7.length=true) (hr:V.inRange x.2.2.1 ar.length=true) (hl:((gx ar x.2.2.1.toNat []).length:Int)=(gx g7 x.2.2.1.toNat dInput).2.2.1) (hd:V.inRange x.2.1 rg.length=true) (ht:1<=(gx g7 x.2.2.1.toNat dInput).2.1/\(gx g7 x.2.2.1.toNat dInput).2.1<=3):
   f92v1_m (x,g1,g2,g3,g4,g5,g6,g7,g8,sc,fu,nx,en,si,ki,ti,re,rg,ar,ma)=some (if gx rg x.2.2.2.1.toNat 0<0\/(gx g7 x.2.2.1.toNat dInput).2.2.1<=gx rg x.2.2.2.1.toNat 0 then (1,x.2.2.2.2.2.1,4,ar)
    else if wtn (gx rg x.2.1.toNat 0) (gx g7 x.2.2.1.toNat dInput).2.1=true then (en,si,ki,ar.set x.2.2.1.toNat ((gx ar x.2.2.1.toNat []).set (gx rg x.2.2.2.1.toNat 0).toNat (gx rg x.2.1.toNat 0))) else (1,x.2.2.2.2.2.1,1,ar)):=by
 simp only [f92v1_m,f92v1_c,f124v1_eq hb hA hr hl,Option.bind_some];split
 · rfl
 · simp only [Sum.elim_inr,hd,hA,ask_true,f77_eq _ _ ht.1 ht.2,Option.bind_some];cases wtn (gx rg x.2.1.toNat 0) (gx g7 x.2.2.1.toNat dInput).2.1<;>rfl
theorem f90v1_eq (hA:V.inRange x.2.2.1 g5.length=true) (hd:V.inRange x.2.1 rg.length=true) (h0:0<=re) (h1:re<=sc.length) (hs:sc.length<=9223372036854775807):
   f90v1_m (x,g1,g2,g3,g4,g5,g6,g7,g8,sc,fu,nx,en,si,ki,ti,re,rg,ar,ma)=some (if re=sc.length then (2,re,rg) else if gx sc re.toNat 0<(gx g5 x.2.2.1.toNat dInput).2.2.1\/(gx g5 x.2.2.1.toNat dInput).2.2.2<gx sc re.toNat 0 then (5,re+1,rg) else (en,re+1,rg.set x.2.1.toNat (gx sc re.toNat 0))):=by
 simp only [f90v1_m,f90v1_c,nt];by_cases h:re=sc.length
 · simp [h]
 · have w:wi64 (re+1)=re+1:=wi64_of (by omega) (by omega);simp only [h,decide_false,cond_false,inRI h0 (show re<(sc.length:Int) by omega),hA,ask_true,w,if_false];by_cases k1:gx sc re.toNat 0<(gx g5 x.2.2.1.toNat dInput).2.2.1
   · simp [k1]
   · by_cases k2:(gx g5 x.2.2.1.toNat dInput).2.2.2<gx sc re.toNat 0
     · simp [k1,k2]
     · simp [k1,k2,hd,ask_true]
theorem f91v1_eq (ha:V.inRange x.2.2.1 rg.length=true) (hS:V.inRange x.2.1 g6.length=true) (hd:V.inRange x.2.1 rg.length=true) (ht:1<=(gx g6 x.2.1.toNat dScalar).2.1/\(gx g6 x.2.1.toNat dScalar).2.1<=3):
  f91v1_m (x,g1,g2,g3,g4,g5,g6,g7,g8,sc,fu,nx,en,si,ki,ti,re,rg,ar,ma)=some (if wtn (gx rg x.2.2.1.toNat 0) (gx g6 x.2.1.toNat dScalar).2.1=true then (en,si,ki,rg.set x.2.1.toNat (gx rg x.2.2.1.toNat 0)) else (1,x.2.2.2.2.2.1,1,rg)):=by
 simp only [f91v1_m,f91v1_c,ha,hS,hd,ask_true,f77_eq _ _ ht.1 ht.2,Option.bind_some];cases wtn (gx rg x.2.2.1.toNat 0) (gx g6 x.2.1.toNat dScalar).2.1<;>rfl
theorem f93v1_eq (ha:V.inRange x.2.2.1 rg.length=true) (hb:V.inRange x.2.2.2.1 rg.length=true) (h1:14<=x.2.2.2.2.1) (h2:x.2.2.2.2.1<=19):
   f93v1_m (x,g1,g2,g3,g4,g5,g6,g7,g8,sc,fu,nx,en,si,ki,ti,re,rg,ar,ma)=some (if tst x.2.2.2.2.1 (gx rg x.2.2.1.toNat 0) (gx rg x.2.2.2.1.toNat 0)=true then nx else x.2.2.2.2.2.2.2):=by
 simp only [f93v1_m,f93v1_c,ha,hb,ask_true,tst];generalize x.2.2.2.2.1=n at *
 generalize gx rg x.2.2.1.toNat 0=a;generalize gx rg x.2.2.2.1.toNat 0=b;have w:wi64 (n-14)=n-14:=wi64_of (by omega) (by omega);rw [w];obtain rfl|rfl|rfl|rfl|rfl|rfl:n=14\/n=15\/n=16\/n=17\/n=18\/n=19:=by omega
 · show cond (!(decide (a=b))) _ _=_;by_cases h:a=b<;>simp [h]
 · show cond (!(!(decide (a=b)))) _ _=_;by_cases h:a=b<;>simp [h]
 · show cond (!(decide (a<b))) _ _=_;by_cases h:a<b<;>simp [h]
 · show cond (!(decide (a<=b))) _ _=_;by_cases h:a<=b<;>simp [h]
 · show cond (!(decide (b<a))) _ _=_;by_cases h:b<a<;>simp [h]
 · show cond (!(decide (b<=a))) _ _=_;by_cases h:b<=a<;>simp [h]
theorem f97v1_eq (h0:0<=fu) (h1:fu<=1000000):f97v1_m (g1,g2,g3,g4,g5,g6,g7,g8,sc,fu,nx,en,si,ki,ti,re,rg,ar,ma)=some (if fu=0 then (false,0,4) else (true,fu-1,en)):=by
 simp only [f97v1_m,f97v1_c];by_cases h:fu=0
 · simp [h]
 · have w:wi64 (fu-1)=fu-1:=wi64_of (by omega) (by omega);simp [h,w]
theorem cutL_take {l:List Int} {n:Nat}:cutL 0 n l=l.take n:=rfl
theorem f57v1_eq (h:g6.length<=rg.length) (hr:rg.length<=10000):f57v1_m (g1,g2,g3,g4,g5,g6,g7,g8,sc,fu,nx,en,si,ki,ti,re,rg,ar,ma)=some (rg.take g6.length):=by
 simp only [f57v1_m,f57v1_c,nt];have e:Int.toNat (g6.length:Int)-0=g6.length:=by omega
 have hl:(cutL 0 (Int.toNat (g6.length:Int)-0) rg).length<=10000:=by rw [e,cutL_take,List.length_take];omega
 refine (ask_eq (b:=decide (0<=(0:Int))&&decide ((0:Int)<=(g6.length:Int))&&decide ((g6.length:Int)<=(rg.length:Int))) (by simp only [Bool.and_eq_true,decide_eq_true_eq];omega)).trans ?_;refine (ask_eq (b:=decide ((cutL 0 (Int.toNat (g6.length:Int)-0) rg).length * 8<=70368744177664)&&decide ((cutL 0 (Int.toNat (g6.length:Int)-0) rg).length<9223372036854775808)) (by simp only [Bool.and_eq_true,decide_eq_true_eq];omega)).trans ?_;show some (cutL 0 (Int.toNat (g6.length:Int)-0) rg)=_;rw [e];rfl
theorem f96v1_eq (h0:0<=fu) (h1:fu<=1000000):f96v1_m (x,g1,g2,g3,g4,g5,g6,g7,g8,sc,fu,nx,en,si,ki,ti,re,rg,ar,ma)=some (if fu=0 then (0,4) else (fu-1,en)):=by
 simp only [f96v1_m,f96v1_c,f97v1_eq h0 h1,Option.bind_some];split<;>rfl
theorem f94v1_eq (h0:0<=fu) (h1:fu<=1000000) (h:g6.length<=rg.length) (hr:rg.length<=10000) (hm:ma.length<=64):
   f94v1_m (x,g1,g2,g3,g4,g5,g6,g7,g8,sc,fu,nx,en,si,ki,ti,re,rg,ar,ma)=some (if ¬ g4=0/\ti=g4 then .inl (fu,3) else if fu=0 then .inl (0,4) else if ma.length<64 then .inr (fu-1,en,ma++[rg.take g6.length]) else .inl (fu-1,en)):=by
 have tail:(f97v1_m (g1,g2,g3,g4,g5,g6,g7,g8,sc,fu,nx,en,si,ki,ti,re,rg,ar,ma)).bind (fun r1=>
     cond r1.1 (cond (decide ((nt (List.length ma))<(64:Int))) ((f57v1_m (g1,g2,g3,g4,g5,g6,g7,g8,sc,r1.2.1,nx,r1.2.2,si,ki,ti,re,rg,ar,ma)).bind fun r2=>
       ask (decide (((List.length ma)+(List.length ([r2]:List (List Int)))) * 24<=70368744177664)&&decide (((List.length ma)+(List.length ([r2]:List (List Int))))<9223372036854775808)) (some (Sum.inr ((r1.2.1,r1.2.2,(ma++([r2]:List (List Int))))):(Int×Int) ⊕ (Int×Int×(List (List Int))))))
       (some (Sum.inl (r1.2.1,r1.2.2)))) (some (Sum.inl (r1.2.1,r1.2.2))))=some (if fu=0 then .inl (0,4) else if ma.length<64 then .inr (fu-1,en,ma++[rg.take g6.length]) else .inl (fu-1,en)):=by
   rw [f97v1_eq h0 h1,Option.bind_some];by_cases k:fu=0
   · simp [k]
   · simp only [k,if_false,cond_true,f57v1_eq h hr,Option.bind_some,nt];rw [ask_eq (b:=decide ((ma.length+List.length ([List.take g6.length rg]:List (List Int))) * 24<=70368744177664)&&decide (ma.length+List.length ([List.take g6.length rg]:List (List Int))<9223372036854775808)) (by simp;omega)];by_cases k2:ma.length<64
     · have:((ma.length:Int)<64):=by omega
       simp [k2,this]
     · have:¬ ((ma.length:Int)<64):=by omega
       simp [k2,this]
 unfold f94v1_m f94v1_c;by_cases k1:g4=0
 · simp only [k1,decide_true,Bool.not_true,cond_false,not_true_eq_false,false_and,if_false];subst k1;exact tail
 · by_cases k2:ti=g4
   · simp [k1,k2]
   · simp only [k1,k2,decide_false,Bool.not_false,cond_true,cond_false,and_false,if_false];exact tail
end
end Go.U
end
section
set_option maxRecDepth 20000
namespace Go.U
open Go
theorem loop_run {T E:Type} {step:T->Option (T ⊕ E)} {n:Nat} (s:Nat->T) (x:E) (hn:n<18446744073709551616) (μ:T->Nat) (hμ:∀ i,i<=n->μ (s i)=n-i) (hs:∀ i,i<n->step (s i)=some (.inl (s (i+1)))) (he:step (s n)=some (.inr x)):loopAll step (s 0)=some x:=by
 obtain ⟨e,h1,h2⟩:=loopAll_of (fun t=>∃ i,i<=n/\t=s i) μ (fun e=>e=x) ⟨0,Nat.zero_le _,rfl⟩ (by rw [hμ 0 (Nat.zero_le _)];omega) (fun t ⟨i,hi,ht⟩=>by
  subst ht;by_cases h:i<n
  · exact .inl ⟨_,hs i h,⟨i+1,h,rfl⟩,by rw [hμ _ h,hμ _ hi];omega⟩
  · have:i=n:=by omega
    subst this;exact .inr ⟨_,he,rfl⟩)
 rw [h1,h2]
theorem take_gx {α:Type} {l:List α} {i:Nat} (d:α) (h:i<l.length):l.take (i+1)=l.take i++[gx l i d]:=by
 rw [List.take_add_one,gx_lt (d:=d) h];rfl
def Small (ar:List (List Int)):Prop:=ar.length<=16/\∀ i,i<ar.length->(gx ar i []).length<=256
section
variable {g:TGraph} {D:List Int} {sc:List Int} {m:M}
theorem Inv.small (hI:Inv g sc m) (hF:FitG g D):Small m.ar:=⟨by rw [hI.al];exact hF.A,fun i hi=>by
 rw [hI.al] at hi;have h1:=hI.az i hi;have h2:=(hF.I.a i hi).2.2;omega⟩
theorem Inv.regs (hI:Inv g sc m) (hF:FitG g D):m.rg.length<=4160/\(scs g).length<=m.rg.length:=by
 have h1:=hI.rg;have h2:=hF.defs.regs;have h3:=hF.defs.len;have h4:=hF.S;omega
theorem inr_use (hF:FitG g D) (hI:Inv g sc m) {j:Nat} (hj:j<g.1.length) {y:Int} (hy:y∈f31_l (at' g j)):V.inRange y m.rg.length=true:=by
 obtain ⟨h1,h2,_⟩:=(hF.good j hj).use y hy;exact inRI h1 (by have:=hI.rg;omega)
theorem inr_dst (hF:FitG g D) (hI:Inv g sc m) {j:Nat} (hj:j<g.1.length) (h:1<=(at' g j).1/\(at' g j).1<=12):V.inRange (at' g j).2.1 m.rg.length=true:=by
 obtain ⟨k,h1,h2⟩:=hF.defs.up j hj (isD_true.2 h);have h3:=getElem?_lt h2;have h4:=hF.defs.regs;have h5:=hI.rg;rw [h1];exact inR (by omega)
theorem inr_un (hF:FitG g D) (hI:Inv g sc m) {j:Nat} (hj:j<g.1.length) (h:(at' g j).1=2\/(at' g j).1=3):V.inRange (at' g j).2.2.2.1 m.rg.length=true:=by
 rw [(hF.good j hj).un h];have:(at' g j).2.2.1∈f31_l (at' g j):=by rcases h with h|h<;>simp [f31_l,h]
 have h2:=(hF.good j hj).use _ this;obtain ⟨h3,h4,_⟩:=h2;exact inRI (Int.le_refl _) (by have:=hI.rg;omega)
end
def mkw (w:Bool×Bool) (way:Int):Bool×Bool:=if way=0 then (true,w.2) else (w.1,true)
def wayOf (x:TInstr) (m:M):Int:=if x.1=15/\tst x.2.2.2.2.1 (m.rd x.2.2.1) (m.rd x.2.2.2.1)=false then 1 else 0
abbrev Ob1:=Int×List Bool×List (Bool×Bool)×Int
def obs1 (g:TGraph) (o:Ob1) (m:M):Ob1:=
 (m.at_,o.2.1.set m.at_.toNat true,(if 0<=o.1 then o.2.2.1.set o.1.toNat (mkw (gx o.2.2.1 o.1.toNat (false,false)) o.2.2.2) else o.2.2.1),wayOf (at' g m.at_.toNat) m)
structure J1 (g:TGraph) (o:Ob1):Prop where
 pl:o.2.1.length=g.1.length
 wl:o.2.2.1.length=g.1.length
 la:o.1<(g.1.length:Int)
 wy:o.2.2.2=0\/o.2.2.2=1
theorem wayOf_or (x:TInstr) (m:M):wayOf x m=0\/wayOf x m=1:=by unfold wayOf;split<;>simp
theorem J1.next {g:TGraph} {o:Ob1} (h:J1 g o) {m:M} (ha:m.at_<(g.1.length:Int)):J1 g (obs1 g o m):=⟨by simp [obs1,h.pl],by simp only [obs1];split<;>simp [h.wl],ha,wayOf_or _ _⟩
theorem f66_eq (x:TInstr) (rg:List Int) (ha:V.inRange x.2.2.1 rg.length=true) (hb:V.inRange x.2.2.2.1 rg.length=true) (h1:14<=x.2.2.2.2.1) (h2:x.2.2.2.2.1<=19):
  f66_m (x,rg)=some (tst x.2.2.2.2.1 (gx rg x.2.2.1.toNat 0) (gx rg x.2.2.2.1.toNat 0)):=by
 simp only [f66_m,f66_c,ha,hb,ask_true,tst];generalize x.2.2.2.2.1=n at *
 generalize gx rg x.2.2.1.toNat 0=a;generalize gx rg x.2.2.2.1.toNat 0=b;have w:wi64 (n-14)=n-14:=wi64_of (by omega) (by omega);rw [w];obtain rfl|rfl|rfl|rfl|rfl|rfl:n=14\/n=15\/n=16\/n=17\/n=18\/n=19:=by omega
 all_goals rfl
theorem f65_eq {g:TGraph} {D:List Int} {sc:List Int} {m:M} {o:Ob1} (hF:FitG g D) (hI:Inv g sc m) (hJ:J1 g o) (h0:0<=m.at_/\m.at_<(g.1.length:Int)) (er:List TAlarm) (z2 z3 z4:Int) (z5:List TInput) (z6:List TScalar) (z7:List TInput) (z8:List TAlarm) (ti:Int) (e1:List (List Int)):
   f65_m (m.at_,ti,o.1,o.2.1,o.2.2.1,er,o.2.2.2,g.1,z2,z3,z4,z5,z6,z7,z8,m.rg,e1)=some ((obs1 g o m).2.1,(obs1 g o m).2.2.1,(obs1 g o m).2.2.2):=by
 obtain ⟨j,hj⟩:=Int.eq_ofNat_of_zero_le h0.1;have hjn:j<g.1.length:=by omega
 have p1:V.inRange m.at_ o.2.1.length=true:=inRI h0.1 (by rw [hJ.pl];exact h0.2);have p2:V.inRange m.at_ g.1.length=true:=inRI h0.1 h0.2;have hw:∀ (P W:_) ,(cond (decide ((gx g.1 (Int.toNat m.at_) dInstr).1=(15:Int))) ((f66_m ((gx g.1 (Int.toNat m.at_) dInstr),m.rg)).bind fun r1=>cond (!r1) (some (P,W,(1:Int))) (some (P,W,0))) (some (P,W,0)):Option (List Bool×List (Bool×Bool)×Int))=some (P,W,wayOf (at' g m.at_.toNat) m):=fun P W=>by
   have hat:gx g.1 (Int.toNat m.at_) dInstr=at' g j:=by rw [hj];rfl
   rw [hat,show m.at_.toNat=j by omega];by_cases h15:(at' g j).1=15
   · have ha:(at' g j).2.2.1∈f31_l (at' g j):=by simp [f31_l,h15]
     have hb:(at' g j).2.2.2.1∈f31_l (at' g j):=by simp [f31_l,h15]
     obtain ⟨t1,t2⟩:=(hF.good j hjn).tst h15;rw [f66_eq _ _ (inr_use hF hI hjn ha) (inr_use hF hI hjn hb) t1 t2];simp only [h15,decide_true,cond_true,Option.bind_some,wayOf,M.rd,true_and];cases tst (at' g j).2.2.2.2.1 (gx m.rg (at' g j).2.2.1.toNat 0) (gx m.rg (at' g j).2.2.2.1.toNat 0)<;>rfl
   · simp [h15,wayOf]
 simp only [f65_m,f65_c,p1,p2,ask_true];by_cases hl:0<=o.1
 · have p3:V.inRange o.1 o.2.2.1.length=true:=inRI hl (by rw [hJ.wl];exact hJ.la);simp only [hl,decide_true,cond_true,p3,ask_true];rcases hJ.wy with h|h
   · simp only [h,decide_true,cond_true,hw];simp only [obs1,hl,if_true,h,mkw]
   · have d:¬ (1:Int)=0:=by decide
     simp only [h,d,decide_true,decide_false,cond_true,cond_false,hw];simp only [obs1,hl,if_true,h,mkw,d,if_false]
 · simp only [hl,decide_false,cond_false,hw];simp only [obs1,hl,if_false]
end Go.U
end
