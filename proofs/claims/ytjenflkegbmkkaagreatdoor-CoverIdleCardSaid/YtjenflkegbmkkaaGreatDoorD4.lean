/- What these Lean functions compute: plain arithmetic of congruences, the checks of a graph, the values of its registers. -/
import Derived.Test.YtjenflkegbmkkaaGreatDoorD3
set_option linter.unusedVariables false
set_option linter.unusedSimpArgs false
set_option linter.unusedSectionVars false
open Bool renaming and_eq_true→Ia,not_true→Xl,not_false→Ve
open Int renaming toNat→ga,le_refl→bh,eq_ofNat_of_zero_le→Yr
open List renaming length_take→dc,length→fa
open Nat renaming zero_le→Nd
open Option renaming bind_some→da
open Sum renaming elim_inr→qt
section
set_option maxRecDepth 20000
namespace Go.U
open Go
structure M where
 fu:Int
 at_:Int
 en:Int
 si:Int
 ki:Int
 ti:Int
 re:Int
 rg:List Int
 ar:List (List Int)
 ma:List (List Int)
def half (t:Int):Int:=if t=1 then 128 else if t=2 then 32768 else 2147483648
def HB (x t:Int):Bool:=decide (-(half t)<=x)&&decide (x<half t)
theorem En (x t:Int) (h1:1<=t) (h3:t<=3):Wk (x,t)=some (HB x t):=by
 have key:∀ y:Int,Wk (x,y)=(ask (decide ((0:Int)<=(Gf y))) (ask (decide ((0:Int)<=(Gf ((Gf (4 * 2^min (ga (Gf y)) 64))-(1:Int))))) (cond (decide ((Ga ((0:Int)-(Ga (1 * 2^min (ga (Gf ((Gf (4 * 2^min (ga (Gf y)) 64))-(1:Int)))) 64))))<=x))
   (some (decide (x<(Ga (1 * 2^min (ga (Gf ((Gf (4 * 2^min (ga (Gf y)) 64))-(1:Int)))) 64))))) (some false)))):=fun y=>rfl
 rw [key];unfold HB half;obtain rfl|rfl|rfl:t=1\/t=2\/t=3:=by omega
 · have e:Ga (1 * 2^min (ga (Gf ((Gf (4 * 2^min (ga (Gf 1)) 64))-(1:Int)))) 64)=128:=by decide
   rw [e];have e2:Ga (0-128)= -128:=by decide
   have d1:(0:Int)<=Gf 1:=by decide
   have d2:(0:Int)<=Gf (Gf (4 * 2^min (ga (Gf 1)) 64)-1):=by decide
   rw [e2,decide_eq_true d1,decide_eq_true d2,Xa,Xa];by_cases h:(-128:Int)<=x<;>simp [h]
 · have e:Ga (1 * 2^min (ga (Gf ((Gf (4 * 2^min (ga (Gf 2)) 64))-(1:Int)))) 64)=32768:=by decide
   rw [e];have e2:Ga (0-32768)= -32768:=by decide
   have d1:(0:Int)<=Gf 2:=by decide
   have d2:(0:Int)<=Gf (Gf (4 * 2^min (ga (Gf 2)) 64)-1):=by decide
   rw [e2,decide_eq_true d1,decide_eq_true d2,Xa,Xa];by_cases h:(-32768:Int)<=x<;>simp [h]
 · have e:Ga (1 * 2^min (ga (Gf ((Gf (4 * 2^min (ga (Gf 3)) 64))-(1:Int)))) 64)=2147483648:=by decide
   rw [e];have e2:Ga (0-2147483648)= -2147483648:=by decide
   have d1:(0:Int)<=Gf 3:=by decide
   have d2:(0:Int)<=Gf (Gf (4 * 2^min (ga (Gf 3)) 64)-1):=by decide
   rw [e2,decide_eq_true d1,decide_eq_true d2,Xa,Xa];by_cases h:(-2147483648:Int)<=x<;>simp [h]
abbrev M.rd (m:M) (i:Int):Int:=gx m.rg i.toNat 0
def M.wr (m:M) (i v:Int):M:={ m with rg:=m.rg.set i.toNat v }
def M.fail (m:M) (site kind:Int):M:={ m with en:=1,si:=site,ki:=kind }
def wS (num a b:Int):Bool:=
 if num=14 then decide (a=b) else if num=15 then !(decide (a=b)) else if num=16 then decide (a<b) else if num=17 then decide (a<=b) else if num=18 then decide (b<a) else decide (b<=a)
def M.RY (m:M) (x:Fb) (v:Int) (chk:Bool):M:=cond (chk&& !(HB v 3)) (m.fail x.2.2.2.2.2.1 1) (m.wr x.2.1 v)
def M.O4 (m:M):M:=if m.fu=0 then { m with en:=4 } else { m with fu:=m.fu-1 }
def CC (g:Ba) (sc:List Int) (x:Fb) (m:M):M:=
 let a:=m.rd x.2.2.1
 let b:=m.rd x.2.2.2.1
 if x.1=1 then m.wr x.2.1 x.2.2.2.2.1
 else if x.1=2 then m.RY x (Ga (0-a)) true
 else if x.1=3 then m.RY x (if Ga (0-a)>a then Ga (0-a) else a) true
 else if x.1=4 then m.RY x (Ga (a+b)) true
 else if x.1=5 then m.RY x (Ga (a-b)) true
 else if x.1=6 then m.RY x (Ga (a * b)) true
 else if x.1=7 then (if b=0 then m.fail x.2.2.2.2.2.1 2 else if a= -2147483648/\b= -1 then m.fail x.2.2.2.2.2.1 3 else m.wr x.2.1 (Ga (Int.tdiv a b)))
 else if x.1=8 then (if b=0 then m.fail x.2.2.2.2.2.1 2 else m.wr x.2.1 (Int.tmod a b))
 else if x.1=9 then m.RY x (if b<a then b else a) false
 else if x.1=10 then m.RY x (if b>a then b else a) false
 else if x.1=11 then (if b<0\/(gx (Xe g) x.2.2.1.toNat Bb).2.2.1<=b then m.fail x.2.2.2.2.2.1 4 else m.wr x.2.1 (gx (gx m.ar x.2.2.1.toNat []) b.toNat 0))
 else if x.1=12 then
  (if m.re=sc.length then { m with en:=2 }
   else if gx sc m.re.toNat 0<(gx (QY g) x.2.2.1.toNat Bb).2.2.1\/(gx (QY g) x.2.2.1.toNat Bb).2.2.2<gx sc m.re.toNat 0 then { m with en:=5,re:=m.re+1 }
   else { m with re:=m.re+1,rg:=m.rg.set x.2.1.toNat (gx sc m.re.toNat 0) })
 else if x.1=13 then (if HB a (gx (yg g) x.2.1.toNat Xc).2.1=true then m.wr x.2.1 a else m.fail x.2.2.2.2.2.1 1)
 else if x.1=14 then
  (if b<0\/(gx (Xe g) x.2.2.1.toNat Bb).2.2.1<=b then m.fail x.2.2.2.2.2.1 4
   else if HB (m.rd x.2.1) (gx (Xe g) x.2.2.1.toNat Bb).2.1=true then { m with ar:=m.ar.set x.2.2.1.toNat ((gx m.ar x.2.2.1.toNat []).set b.toNat (m.rd x.2.1)) } else m.fail x.2.2.2.2.2.1 1)
 else if x.1=15 then (if wS x.2.2.2.2.1 a b=true then m else { m with at_:=x.2.2.2.2.2.2.2 })
 else if x.1=17 then
  (if ¬ g.2.2.2.1=0/\m.ti=g.2.2.2.1 then { m with en:=3 }
   else if m.fu=0 then { m with en:=4 }
   else if m.ma.length<64 then { m with fu:=m.fu-1,ma:=m.ma++[m.rg.take (yg g).length] } else { m with fu:=m.fu-1 })
 else if x.1=18 then { m with ti:=Ga (m.ti+1) }
 else if x.1=20 then m.O4
 else if x.1=21 then m.fail x.2.2.2.2.2.1 5
 else m
abbrev EE (x:Fb):Int:=x.2.2.2.2.2.2.1
abbrev M.to (m:M) (n:Int):M:={ m with at_:=n }
def step (g:Ba) (sc:List Int) (m:M):M:=CC g sc (at' g m.at_.toNat) (m.to (EE (at' g m.at_.toNat)))
structure Inv (g:Ba) (sc:List Int) (m:M):Prop where
 at0:m.en=0->0<=m.at_/\m.at_<(g.1.length:Int)
 rg:(m.rg.length:Int)=g.2.2.1
 al:m.ar.length=(Xe g).length
 az:∀ i,i<(Xe g).length->((gx m.ar i []).length:Int)=(gx (Xe g) i Bb).2.2.1
 ma:m.ma.length<=64
 re:0<=m.re/\m.re<=sc.length
 fu:0<=m.fu/\m.fu<=1000000
 er:m.en=1->∃ j,j<g.1.length/\m.si=(at' g j).2.2.2.2.2.1/\1<=m.ki/\m.ki<=5
end Go.U
end
section
set_option maxRecDepth 20000
namespace Go.U
open Go
section
variable {x:Fb} {c:Bool} {g1:List Fb} {g2 g3 g4:Int} {g5:List Tc} {g6:List Xd} {g7:List Tc} {g8:List Ra} {sc:List Int} {fu nx en si ki ti re:Int} {rg:List Int} {ar ma:List (List Int)}
theorem Fe {X:Type} {b:Bool} {y:Option X} (h:b=true):ask b y=y:=by subst h;rfl
def yG (c:Bool) (x:Fb) (v en si ki:Int) (rg:List Int):Int×Int×Int×List Int:=cond (c&& !(HB v 3)) (1,x.2.2.2.2.2.1,1,rg) (en,si,ki,rg.set x.2.1.toNat v)
theorem yV (h:V.va x.2.1 rg.length=true):Oq (x,g1,g2,g3,g4,g5,g6,g7,g8,sc,fu,nx,en,si,ki,ti,re,rg,ar,ma)=some (rg.set x.2.1.toNat x.2.2.2.2.1):=by
 simp only [Oq,Vy,h,Xa]
section
variable (ha:V.va x.2.2.1 rg.length=true) (hb:V.va x.2.2.2.1 rg.length=true) (hd:V.va x.2.1 rg.length=true)
include ha hb hd
theorem LV:Rq (x,c,g1,g2,g3,g4,g5,g6,g7,g8,sc,fu,nx,en,si,ki,ti,re,rg,ar,ma)=some (yG c x (Ga (0-gx rg x.2.2.1.toNat 0)) en si ki rg):=by
 simp only [Rq,Yy,ha,hb,hd,Xa,En _ 3 (by decide) (by decide),da,yG];cases c<;>cases HB (Ga (0-gx rg x.2.2.1.toNat 0)) 3<;>rfl
theorem IV:Qq (x,c,g1,g2,g3,g4,g5,g6,g7,g8,sc,fu,nx,en,si,ki,ti,re,rg,ar,ma)=some (yG c x (if Ga (0-gx rg x.2.2.1.toNat 0)>gx rg x.2.2.1.toNat 0 then Ga (0-gx rg x.2.2.1.toNat 0) else gx rg x.2.2.1.toNat 0) en si ki rg):=by
 simp only [Qq,Xy,ha,hb,hd,Xa,En _ 3 (by decide) (by decide),da,yG];generalize (if Ga (0-gx rg x.2.2.1.toNat 0)>gx rg x.2.2.1.toNat 0 then Ga (0-gx rg x.2.2.1.toNat 0) else gx rg x.2.2.1.toNat 0)=v;cases c<;>cases HB v 3<;>rfl
theorem FV:Pq (x,c,g1,g2,g3,g4,g5,g6,g7,g8,sc,fu,nx,en,si,ki,ti,re,rg,ar,ma)=some (yG c x (Ga (gx rg x.2.2.1.toNat 0+gx rg x.2.2.2.1.toNat 0)) en si ki rg):=by
 simp only [Pq,Wy,ha,hb,hd,Xa,En _ 3 (by decide) (by decide),da,yG];cases c<;>cases HB (Ga (gx rg x.2.2.1.toNat 0+gx rg x.2.2.2.1.toNat 0)) 3<;>rfl
theorem rQ:Fm (x,c,g1,g2,g3,g4,g5,g6,g7,g8,sc,fu,nx,en,si,ki,ti,re,rg,ar,ma)=some (yG c x (Ga (gx rg x.2.2.1.toNat 0-gx rg x.2.2.2.1.toNat 0)) en si ki rg):=by
 simp only [Fm,zu,ha,hb,hd,Xa,En _ 3 (by decide) (by decide),da,yG];cases c<;>cases HB (Ga (gx rg x.2.2.1.toNat 0-gx rg x.2.2.2.1.toNat 0)) 3<;>rfl
theorem oQ:Em (x,c,g1,g2,g3,g4,g5,g6,g7,g8,sc,fu,nx,en,si,ki,ti,re,rg,ar,ma)=some (yG c x (Ga (gx rg x.2.2.1.toNat 0 * gx rg x.2.2.2.1.toNat 0)) en si ki rg):=by
 simp only [Em,yu,ha,hb,hd,Xa,En _ 3 (by decide) (by decide),da,yG];cases c<;>cases HB (Ga (gx rg x.2.2.1.toNat 0 * gx rg x.2.2.2.1.toNat 0)) 3<;>rfl
theorem lQ:Dm (x,c,g1,g2,g3,g4,g5,g6,g7,g8,sc,fu,nx,en,si,ki,ti,re,rg,ar,ma)=some (yG c x (if gx rg x.2.2.2.1.toNat 0<gx rg x.2.2.1.toNat 0 then gx rg x.2.2.2.1.toNat 0 else gx rg x.2.2.1.toNat 0) en si ki rg):=by
 simp only [Dm,xu,ha,hb,hd,Xa,En _ 3 (by decide) (by decide),da,yG];generalize (if gx rg x.2.2.2.1.toNat 0<gx rg x.2.2.1.toNat 0 then gx rg x.2.2.2.1.toNat 0 else gx rg x.2.2.1.toNat 0)=v;cases c<;>cases HB v 3<;>rfl
theorem iQ:Cm (x,c,g1,g2,g3,g4,g5,g6,g7,g8,sc,fu,nx,en,si,ki,ti,re,rg,ar,ma)=some (yG c x (if gx rg x.2.2.2.1.toNat 0>gx rg x.2.2.1.toNat 0 then gx rg x.2.2.2.1.toNat 0 else gx rg x.2.2.1.toNat 0) en si ki rg):=by
 simp only [Cm,wu,ha,hb,hd,Xa,En _ 3 (by decide) (by decide),da,yG];generalize (if gx rg x.2.2.2.1.toNat 0>gx rg x.2.2.1.toNat 0 then gx rg x.2.2.2.1.toNat 0 else gx rg x.2.2.1.toNat 0)=v;cases c<;>cases HB v 3<;>rfl
theorem dQ (h7:x.1=7):Uj (x,g1,g2,g3,g4,g5,g6,g7,g8,sc,fu,nx,en,si,ki,ti,re,rg,ar,ma)=some (if gx rg x.2.2.2.1.toNat 0=0 then (1,x.2.2.2.2.2.1,2,rg) else if gx rg x.2.2.1.toNat 0= -2147483648/\gx rg x.2.2.2.1.toNat 0= -1 then (1,x.2.2.2.2.2.1,3,rg) else (en,si,ki,rg.set x.2.1.toNat (Ga (Int.tdiv (gx rg x.2.2.1.toNat 0) (gx rg x.2.2.2.1.toNat 0))))):=by
 simp only [Uj,vu,ha,hb,hd,Xa,h7];by_cases h0:gx rg x.2.2.2.1.toNat 0=0
 · simp [h0]
 · by_cases h1:gx rg x.2.2.1.toNat 0= -2147483648
   · by_cases h2:gx rg x.2.2.2.1.toNat 0= -1
     · simp [h1,h2]
     · simp [h0,h1,h2]
   · simp [h0,h1]
theorem cQ (h8:x.1=8):Uj (x,g1,g2,g3,g4,g5,g6,g7,g8,sc,fu,nx,en,si,ki,ti,re,rg,ar,ma)=some (if gx rg x.2.2.2.1.toNat 0=0 then (1,x.2.2.2.2.2.1,2,rg) else (en,si,ki,rg.set x.2.1.toNat (Int.tmod (gx rg x.2.2.1.toNat 0) (gx rg x.2.2.2.1.toNat 0)))):=by
 simp only [Uj,vu,ha,hb,hd,Xa,h8];by_cases h0:gx rg x.2.2.2.1.toNat 0=0<;>simp [h0]
end
theorem GD (hb:V.va x.2.2.2.1 rg.length=true) (hA:V.va x.2.2.1 g7.length=true) (hr:V.va x.2.2.1 ar.length=true) (hl:((gx ar x.2.2.1.toNat []).length:Int)=(gx g7 x.2.2.1.toNat Bb).2.2.1):
   Dk (x,g1,g2,g3,g4,g5,g6,g7,g8,sc,fu,nx,en,si,ki,ti,re,rg,ar,ma)=some (if gx rg x.2.2.2.1.toNat 0<0\/(gx g7 x.2.2.1.toNat Bb).2.2.1<=gx rg x.2.2.2.1.toNat 0 then .inl () else .inr (x.2.2.1.toNat,(gx rg x.2.2.2.1.toNat 0).toNat)):=by
 simp only [Dk,Ku,hb,hA,hr,Xa];by_cases h1:gx rg x.2.2.2.1.toNat 0<0
 · simp [h1]
 · by_cases h2:(gx g7 x.2.2.1.toNat Bb).2.2.1<=gx rg x.2.2.2.1.toNat 0
   · simp [h1,h2]
   · simp only [h1,h2,decide_false,cond_false,Am (show 0<=gx rg x.2.2.2.1.toNat 0 by omega) (show gx rg x.2.2.2.1.toNat 0<((gx ar x.2.2.1.toNat []).length:Int) by omega),Xa,or_self,if_false]
theorem dV (hb:V.va x.2.2.2.1 rg.length=true) (hA:V.va x.2.2.1 g7.length=true) (hr:V.va x.2.2.1 ar.length=true) (hl:((gx ar x.2.2.1.toNat []).length:Int)=(gx g7 x.2.2.1.toNat Bb).2.2.1) (hd:V.va x.2.1 rg.length=true):
   Nq (x,g1,g2,g3,g4,g5,g6,g7,g8,sc,fu,nx,en,si,ki,ti,re,rg,ar,ma)=some (if gx rg x.2.2.2.1.toNat 0<0\/(gx g7 x.2.2.1.toNat Bb).2.2.1<=gx rg x.2.2.2.1.toNat 0 then (1,x.2.2.2.2.2.1,4,rg) else (en,si,ki,rg.set x.2.1.toNat (gx (gx ar x.2.2.1.toNat []) (gx rg x.2.2.2.1.toNat 0).toNat 0))):=by
 simp only [Nq,Uy,GD hb hA hr hl,da];split
 · rfl
 · simp only [qt,hd,Xa]
theorem MU (hb:V.va x.2.2.2.1 rg.length=true) (hA:V.va x.2.2.1 g7.length=true) (hr:V.va x.2.2.1 ar.length=true) (hl:((gx ar x.2.2.1.toNat []).length:Int)=(gx g7 x.2.2.1.toNat Bb).2.2.1) (hd:V.va x.2.1 rg.length=true) (ht:1<=(gx g7 x.2.2.1.toNat Bb).2.1/\(gx g7 x.2.2.1.toNat Bb).2.1<=3):
   Kq (x,g1,g2,g3,g4,g5,g6,g7,g8,sc,fu,nx,en,si,ki,ti,re,rg,ar,ma)=some (if gx rg x.2.2.2.1.toNat 0<0\/(gx g7 x.2.2.1.toNat Bb).2.2.1<=gx rg x.2.2.2.1.toNat 0 then (1,x.2.2.2.2.2.1,4,ar)
    else if HB (gx rg x.2.1.toNat 0) (gx g7 x.2.2.1.toNat Bb).2.1=true then (en,si,ki,ar.set x.2.2.1.toNat ((gx ar x.2.2.1.toNat []).set (gx rg x.2.2.2.1.toNat 0).toNat (gx rg x.2.1.toNat 0))) else (1,x.2.2.2.2.2.1,1,ar)):=by
 simp only [Kq,Ry,GD hb hA hr hl,da];split
 · rfl
 · simp only [qt,hd,hA,Xa,En _ _ ht.1 ht.2,da];cases HB (gx rg x.2.1.toNat 0) (gx g7 x.2.2.1.toNat Bb).2.1<;>rfl
theorem SU (hA:V.va x.2.2.1 g5.length=true) (hd:V.va x.2.1 rg.length=true) (h0:0<=re) (h1:re<=sc.length) (hs:sc.length<=9223372036854775807):
   Mq (x,g1,g2,g3,g4,g5,g6,g7,g8,sc,fu,nx,en,si,ki,ti,re,rg,ar,ma)=some (if re=sc.length then (2,re,rg) else if gx sc re.toNat 0<(gx g5 x.2.2.1.toNat Bb).2.2.1\/(gx g5 x.2.2.1.toNat Bb).2.2.2<gx sc re.toNat 0 then (5,re+1,rg) else (en,re+1,rg.set x.2.1.toNat (gx sc re.toNat 0))):=by
 simp only [Mq,Ty,nt];by_cases h:re=sc.length
 · simp [h]
 · have w:Ga (re+1)=re+1:=Sb (by omega) (by omega);simp only [h,decide_false,cond_false,Am h0 (show re<(sc.length:Int) by omega),hA,Xa,w,if_false];by_cases k1:gx sc re.toNat 0<(gx g5 x.2.2.1.toNat Bb).2.2.1
   · simp [k1]
   · by_cases k2:(gx g5 x.2.2.1.toNat Bb).2.2.2<gx sc re.toNat 0
     · simp [k1,k2]
     · simp [k1,k2,hd,Xa]
theorem PU (ha:V.va x.2.2.1 rg.length=true) (hS:V.va x.2.1 g6.length=true) (hd:V.va x.2.1 rg.length=true) (ht:1<=(gx g6 x.2.1.toNat Xc).2.1/\(gx g6 x.2.1.toNat Xc).2.1<=3):
  Lq (x,g1,g2,g3,g4,g5,g6,g7,g8,sc,fu,nx,en,si,ki,ti,re,rg,ar,ma)=some (if HB (gx rg x.2.2.1.toNat 0) (gx g6 x.2.1.toNat Xc).2.1=true then (en,si,ki,rg.set x.2.1.toNat (gx rg x.2.2.1.toNat 0)) else (1,x.2.2.2.2.2.1,1,rg)):=by
 simp only [Lq,Sy,ha,hS,hd,Xa,En _ _ ht.1 ht.2,da];cases HB (gx rg x.2.2.1.toNat 0) (gx g6 x.2.1.toNat Xc).2.1<;>rfl
theorem JU (ha:V.va x.2.2.1 rg.length=true) (hb:V.va x.2.2.2.1 rg.length=true) (h1:14<=x.2.2.2.2.1) (h2:x.2.2.2.2.1<=19):
   Jq (x,g1,g2,g3,g4,g5,g6,g7,g8,sc,fu,nx,en,si,ki,ti,re,rg,ar,ma)=some (if wS x.2.2.2.2.1 (gx rg x.2.2.1.toNat 0) (gx rg x.2.2.2.1.toNat 0)=true then nx else x.2.2.2.2.2.2.2):=by
 simp only [Jq,Qy,ha,hb,Xa,wS];generalize x.2.2.2.2.1=n at *
 generalize gx rg x.2.2.1.toNat 0=a;generalize gx rg x.2.2.2.1.toNat 0=b;have w:Ga (n-14)=n-14:=Sb (by omega) (by omega);rw [w];obtain rfl|rfl|rfl|rfl|rfl|rfl:n=14\/n=15\/n=16\/n=17\/n=18\/n=19:=by omega
 · show cond (!(decide (a=b))) _ _=_;by_cases h:a=b<;>simp [h]
 · show cond (!(!(decide (a=b)))) _ _=_;by_cases h:a=b<;>simp [h]
 · show cond (!(decide (a<b))) _ _=_;by_cases h:a<b<;>simp [h]
 · show cond (!(decide (a<=b))) _ _=_;by_cases h:a<=b<;>simp [h]
 · show cond (!(decide (b<a))) _ _=_;by_cases h:b<a<;>simp [h]
 · show cond (!(decide (b<=a))) _ _=_;by_cases h:b<=a<;>simp [h]
theorem aI (h0:0<=fu) (h1:fu<=1000000):Tj (g1,g2,g3,g4,g5,g6,g7,g8,sc,fu,nx,en,si,ki,ti,re,rg,ar,ma)=some (if fu=0 then (false,0,4) else (true,fu-1,en)):=by
 simp only [Tj,Ny];by_cases h:fu=0
 · simp [h]
 · have w:Ga (fu-1)=fu-1:=Sb (by omega) (by omega);simp [h,w]
theorem OD {l:List Int} {n:Nat}:Vi 0 n l=l.take n:=rfl
theorem MW (h:g6.length<=rg.length) (hr:rg.length<=10000):Yk (g1,g2,g3,g4,g5,g6,g7,g8,sc,fu,nx,en,si,ki,ti,re,rg,ar,ma)=some (rg.take g6.length):=by
 simp only [Yk,gz,nt];have e:ga (g6.length:Int)-0=g6.length:=by omega
 have hl:(Vi 0 (ga (g6.length:Int)-0) rg).length<=10000:=by rw [e,OD,dc];omega
 refine (Fe (b:=decide (0<=(0:Int))&&decide ((0:Int)<=(g6.length:Int))&&decide ((g6.length:Int)<=(rg.length:Int))) (by simp only [Ia,decide_eq_true_eq];omega)).trans ?_;refine (Fe (b:=decide ((Vi 0 (ga (g6.length:Int)-0) rg).length * 8<=70368744177664)&&decide ((Vi 0 (ga (g6.length:Int)-0) rg).length<9223372036854775808)) (by simp only [Ia,decide_eq_true_eq];omega)).trans ?_;show some (Vi 0 (ga (g6.length:Int)-0) rg)=_;rw [e];rfl
theorem BU (h0:0<=fu) (h1:fu<=1000000):Hq (x,g1,g2,g3,g4,g5,g6,g7,g8,sc,fu,nx,en,si,ki,ti,re,rg,ar,ma)=some (if fu=0 then (0,4) else (fu-1,en)):=by
 simp only [Hq,Oy,aI h0 h1,da];split<;>rfl
theorem GU (h0:0<=fu) (h1:fu<=1000000) (h:g6.length<=rg.length) (hr:rg.length<=10000) (hm:ma.length<=64):
   Iq (x,g1,g2,g3,g4,g5,g6,g7,g8,sc,fu,nx,en,si,ki,ti,re,rg,ar,ma)=some (if ¬ g4=0/\ti=g4 then .inl (fu,3) else if fu=0 then .inl (0,4) else if ma.length<64 then .inr (fu-1,en,ma++[rg.take g6.length]) else .inl (fu-1,en)):=by
 have tail:(Tj (g1,g2,g3,g4,g5,g6,g7,g8,sc,fu,nx,en,si,ki,ti,re,rg,ar,ma)).bind (fun r1=>
     cond r1.1 (cond (decide ((nt (fa ma))<(64:Int))) ((Yk (g1,g2,g3,g4,g5,g6,g7,g8,sc,r1.2.1,nx,r1.2.2,si,ki,ti,re,rg,ar,ma)).bind fun r2=>
       ask (decide (((fa ma)+(fa ([r2]:List (List Int)))) * 24<=70368744177664)&&decide (((fa ma)+(fa ([r2]:List (List Int))))<9223372036854775808)) (some (Sum.inr ((r1.2.1,r1.2.2,(ma++([r2]:List (List Int))))):(Int×Int) ⊕ (Int×Int×(List (List Int))))))
       (some (Sum.inl (r1.2.1,r1.2.2)))) (some (Sum.inl (r1.2.1,r1.2.2))))=some (if fu=0 then .inl (0,4) else if ma.length<64 then .inr (fu-1,en,ma++[rg.take g6.length]) else .inl (fu-1,en)):=by
   rw [aI h0 h1,da];by_cases k:fu=0
   · simp [k]
   · simp only [k,if_false,cond_true,MW h hr,da,nt];rw [Fe (b:=decide ((ma.length+fa ([List.take g6.length rg]:List (List Int))) * 24<=70368744177664)&&decide (ma.length+fa ([List.take g6.length rg]:List (List Int))<9223372036854775808)) (by simp;omega)];by_cases k2:ma.length<64
     · have:((ma.length:Int)<64):=by omega
       simp [k2,this]
     · have:¬ ((ma.length:Int)<64):=by omega
       simp [k2,this]
 unfold Iq Py;by_cases k1:g4=0
 · simp only [k1,decide_true,Xl,cond_false,not_true_eq_false,false_and,if_false];subst k1;exact tail
 · by_cases k2:ti=g4
   · simp [k1,k2]
   · simp only [k1,k2,decide_false,Ve,cond_true,cond_false,and_false,if_false];exact tail
end
end Go.U
end
section
set_option maxRecDepth 20000
namespace Go.U
open Go
theorem Md {T E:Type} {step:T->Option (T ⊕ E)} {n:Nat} (s:Nat->T) (x:E) (hn:n<18446744073709551616) (μ:T->Nat) (gZ:∀ i,i<=n->μ (s i)=n-i) (hs:∀ i,i<n->step (s i)=some (.inl (s (i+1)))) (he:step (s n)=some (.inr x)):Oa step (s 0)=some x:=by
 obtain ⟨e,h1,h2⟩:=Eg (fun t=>∃ i,i<=n/\t=s i) μ (fun e=>e=x) ⟨0,Nd _,rfl⟩ (by rw [gZ 0 (Nd _)];omega) (fun t ⟨i,hi,ht⟩=>by
  subst ht;by_cases h:i<n
  · exact .inl ⟨_,hs i h,⟨i+1,h,rfl⟩,by rw [gZ _ h,gZ _ hi];omega⟩
  · have:i=n:=by omega
    subst this;exact .inr ⟨_,he,rfl⟩)
 rw [h1,h2]
theorem Qg {α:Type} {l:List α} {i:Nat} (d:α) (h:i<l.length):l.take (i+1)=l.take i++[gx l i d]:=by
 rw [List.take_add_one,jh (d:=d) h];rfl
def Small (ar:List (List Int)):Prop:=ar.length<=16/\∀ i,i<ar.length->(gx ar i []).length<=256
section
variable {g:Ba} {D:List Int} {sc:List Int} {m:M}
theorem Inv.small (hI:Inv g sc m) (hF:Ng g D):Small m.ar:=⟨by rw [hI.al];exact hF.A,fun i hi=>by
 rw [hI.al] at hi;have h1:=hI.az i hi;have h2:=(hF.I.a i hi).2.2;omega⟩
theorem Inv.uE (hI:Inv g sc m) (hF:Ng g D):m.rg.length<=4160/\(yg g).length<=m.rg.length:=by
 have h1:=hI.rg;have h2:=hF.defs.uE;have h3:=hF.defs.len;have h4:=hF.S;omega
theorem QE (hF:Ng g D) (hI:Inv g sc m) {j:Nat} (hj:j<g.1.length) {y:Int} (hy:y∈Mf (at' g j)):V.va y m.rg.length=true:=by
 obtain ⟨h1,h2,_⟩:=(hF.xK j hj).use y hy;exact Am h1 (by have:=hI.rg;omega)
theorem C0 (hF:Ng g D) (hI:Inv g sc m) {j:Nat} (hj:j<g.1.length) (h:1<=(at' g j).1/\(at' g j).1<=12):V.va (at' g j).2.1 m.rg.length=true:=by
 obtain ⟨k,h1,h2⟩:=hF.defs.up j hj (Zo.2 h);have h3:=Ua h2;have h4:=hF.defs.uE;have h5:=hI.rg;rw [h1];exact Rh (by omega)
theorem M8 (hF:Ng g D) (hI:Inv g sc m) {j:Nat} (hj:j<g.1.length) (h:(at' g j).1=2\/(at' g j).1=3):V.va (at' g j).2.2.2.1 m.rg.length=true:=by
 rw [(hF.xK j hj).un h];have:(at' g j).2.2.1∈Mf (at' g j):=by rcases h with h|h<;>simp [Mf,h]
 have h2:=(hF.xK j hj).use _ this;obtain ⟨h3,h4,_⟩:=h2;exact Am (bh _) (by have:=hI.rg;omega)
end
def mkw (w:Bool×Bool) (way:Int):Bool×Bool:=if way=0 then (true,w.2) else (w.1,true)
def Bz (x:Fb) (m:M):Int:=if x.1=15/\wS x.2.2.2.2.1 (m.rd x.2.2.1) (m.rd x.2.2.2.1)=false then 1 else 0
abbrev VR:=Int×List Bool×List (Bool×Bool)×Int
def zk (g:Ba) (o:VR) (m:M):VR:=
 (m.at_,o.2.1.set m.at_.toNat true,(if 0<=o.1 then o.2.2.1.set o.1.toNat (mkw (gx o.2.2.1 o.1.toNat (false,false)) o.2.2.2) else o.2.2.1),Bz (at' g m.at_.toNat) m)
structure J1 (g:Ba) (o:VR):Prop where
 pl:o.2.1.length=g.1.length
 wl:o.2.2.1.length=g.1.length
 la:o.1<(g.1.length:Int)
 wy:o.2.2.2=0\/o.2.2.2=1
theorem sS (x:Fb) (m:M):Bz x m=0\/Bz x m=1:=by unfold Bz;split<;>simp
theorem J1.next {g:Ba} {o:VR} (h:J1 g o) {m:M} (ha:m.at_<(g.1.length:Int)):J1 g (zk g o m):=⟨by simp [zk,h.pl],by simp only [zk];split<;>simp [h.wl],ha,sS _ _⟩
theorem z_ (x:Fb) (rg:List Int) (ha:V.va x.2.2.1 rg.length=true) (hb:V.va x.2.2.2.1 rg.length=true) (h1:14<=x.2.2.2.2.1) (h2:x.2.2.2.2.1<=19):
  Eu (x,rg)=some (wS x.2.2.2.2.1 (gx rg x.2.2.1.toNat 0) (gx rg x.2.2.2.1.toNat 0)):=by
 simp only [Eu,wN,ha,hb,Xa,wS];generalize x.2.2.2.2.1=n at *
 generalize gx rg x.2.2.1.toNat 0=a;generalize gx rg x.2.2.2.1.toNat 0=b;have w:Ga (n-14)=n-14:=Sb (by omega) (by omega);rw [w];obtain rfl|rfl|rfl|rfl|rfl|rfl:n=14\/n=15\/n=16\/n=17\/n=18\/n=19:=by omega
 all_goals rfl
theorem C_ {g:Ba} {D:List Int} {sc:List Int} {m:M} {o:VR} (hF:Ng g D) (hI:Inv g sc m) (hJ:J1 g o) (h0:0<=m.at_/\m.at_<(g.1.length:Int)) (er:List Ra) (z2 z3 z4:Int) (z5:List Tc) (z6:List Xd) (z7:List Tc) (z8:List Ra) (ti:Int) (e1:List (List Int)):
   qD (m.at_,ti,o.1,o.2.1,o.2.2.1,er,o.2.2.2,g.1,z2,z3,z4,z5,z6,z7,z8,m.rg,e1)=some ((zk g o m).2.1,(zk g o m).2.2.1,(zk g o m).2.2.2):=by
 obtain ⟨j,hj⟩:=Yr h0.1;have GG:j<g.1.length:=by omega
 have p1:V.va m.at_ o.2.1.length=true:=Am h0.1 (by rw [hJ.pl];exact h0.2);have p2:V.va m.at_ g.1.length=true:=Am h0.1 h0.2;have hw:∀ (P W:_) ,(cond (decide ((gx g.1 (ga m.at_) Ta).1=(15:Int))) ((Eu ((gx g.1 (ga m.at_) Ta),m.rg)).bind fun r1=>cond (!r1) (some (P,W,(1:Int))) (some (P,W,0))) (some (P,W,0)):Option (List Bool×List (Bool×Bool)×Int))=some (P,W,Bz (at' g m.at_.toNat) m):=fun P W=>by
   have kp:gx g.1 (ga m.at_) Ta=at' g j:=by rw [hj];rfl
   rw [kp,show m.at_.toNat=j by omega];by_cases uZ:(at' g j).1=15
   · have ha:(at' g j).2.2.1∈Mf (at' g j):=by simp [Mf,uZ]
     have hb:(at' g j).2.2.2.1∈Mf (at' g j):=by simp [Mf,uZ]
     obtain ⟨t1,t2⟩:=(hF.xK j GG).wS uZ;rw [z_ _ _ (QE hF hI GG ha) (QE hF hI GG hb) t1 t2];simp only [uZ,decide_true,cond_true,da,Bz,M.rd,true_and];cases wS (at' g j).2.2.2.2.1 (gx m.rg (at' g j).2.2.1.toNat 0) (gx m.rg (at' g j).2.2.2.1.toNat 0)<;>rfl
   · simp [uZ,Bz]
 simp only [qD,xN,p1,p2,Xa];by_cases hl:0<=o.1
 · have p3:V.va o.1 o.2.2.1.length=true:=Am hl (by rw [hJ.wl];exact hJ.la);simp only [hl,decide_true,cond_true,p3,Xa];rcases hJ.wy with h|h
   · simp only [h,decide_true,cond_true,hw];simp only [zk,hl,if_true,h,mkw]
   · have d:¬ (1:Int)=0:=by decide
     simp only [h,d,decide_true,decide_false,cond_true,cond_false,hw];simp only [zk,hl,if_true,h,mkw,d,if_false]
 · simp only [hl,decide_false,cond_false,hw];simp only [zk,hl,if_false]
end Go.U
end
