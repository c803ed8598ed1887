/- What these Lean functions compute: plain arithmetic of congruences, the checks of a graph, the values of its registers. -/
import Derived.Test.YtjenflkegbmkkaaGreatDoorD3
set_option linter.unusedVariables false
set_option linter.unusedSimpArgs false
set_option linter.unusedSectionVars false
open Bool renaming and_eq_true→Va,not_true→Zf,not_false→gf
open Int renaming toNat→fa,le_refl→qh,eq_ofNat_of_zero_le→Pf
open List renaming length_take→ic,length→da
open Nat renaming zero_le→je
open Option renaming bind_some→ga
section
set_option maxRecDepth 20000
namespace Go.U
open Go
structure M where
 fu:Int
 at_:Int
 en:Int
 si:Int
 ki:Int
 ti:Int
 re:Int
 rg:List Int
 ar:List (List Int)
 ma:List (List Int)
def half(t:Int):Int:=if t=1 then 128 else if t=2 then 32768 else 2147483648
def Qp(x t:Int):Bool:=decide (-(half t)<=x)&&decide (x<half t)
theorem zo(x t:Int)(h1:1<=t)(h3:t<=3):Vl (x,t)=some (Qp x t):=by
 have key:∀y:Int,Vl (x,y)=(ask (decide ((0:Int)<=(Tf y))) (ask (decide ((0:Int)<=(Tf ((Tf (4 * 2^min (fa (Tf y)) 64))-(1:Int))))) (cond (decide ((Ea ((0:Int)-(Ea (1 * 2^min (fa (Tf ((Tf (4 * 2^min (fa (Tf y)) 64))-(1:Int)))) 64))))<=x))
  (some (decide (x<(Ea (1 * 2^min (fa (Tf ((Tf (4 * 2^min (fa (Tf y)) 64))-(1:Int)))) 64))))) (some false)))):=fun y=>rfl
 rw[key];unfold Qp half;obtain rfl|rfl|rfl:t=1\/t=2\/t=3:=by omega
 ·have e:Ea (1 * 2^min (fa (Tf ((Tf (4 * 2^min (fa (Tf 1)) 64))-(1:Int)))) 64)=128:=by decide
  rw[e];have e2:Ea (0-128)= -128:=by decide
  have d1:(0:Int)<=Tf 1:=by decide
  have d2:(0:Int)<=Tf (Tf (4 * 2^min (fa (Tf 1)) 64)-1):=by decide
  rw[e2,decide_eq_true d1,decide_eq_true d2,Oa,Oa];by_cases h:(-128:Int)<=x<;>simp[h]
 ·have e:Ea (1 * 2^min (fa (Tf ((Tf (4 * 2^min (fa (Tf 2)) 64))-(1:Int)))) 64)=32768:=by decide
  rw[e];have e2:Ea (0-32768)= -32768:=by decide
  have d1:(0:Int)<=Tf 2:=by decide
  have d2:(0:Int)<=Tf (Tf (4 * 2^min (fa (Tf 2)) 64)-1):=by decide
  rw[e2,decide_eq_true d1,decide_eq_true d2,Oa,Oa];by_cases h:(-32768:Int)<=x<;>simp[h]
 ·have e:Ea (1 * 2^min (fa (Tf ((Tf (4 * 2^min (fa (Tf 3)) 64))-(1:Int)))) 64)=2147483648:=by decide
  rw[e];have e2:Ea (0-2147483648)= -2147483648:=by decide
  have d1:(0:Int)<=Tf 3:=by decide
  have d2:(0:Int)<=Tf (Tf (4 * 2^min (fa (Tf 3)) 64)-1):=by decide
  rw[e2,decide_eq_true d1,decide_eq_true d2,Oa,Oa];by_cases h:(-2147483648:Int)<=x<;>simp[h]
abbrev M.rd(m:M)(i:Int):Int:=gx m.rg i.toNat 0
def M.wr(m:M)(i v:Int):M:={ m with rg:=m.rg.set i.toNat v }
def M.fail(m:M)(site kind:Int):M:={ m with en:=1,si:=site,ki:=kind }
def oE(num a b:Int):Bool:=
 if num=14 then decide (a=b)else if num=15 then !(decide (a=b))else if num=16 then decide (a<b)else if num=17 then decide (a<=b)else if num=18 then decide (b<a)else decide (b<=a)
def M.TK(m:M)(x:Wa)(v:Int)(chk:Bool):M:=cond (chk&& !(Qp v 3)) (m.fail x.2.2.2.2.2.1 1) (m.wr x.2.1 v)
def M.NN(m:M):M:=if m.fu=0 then{ m with en:=4 }else{ m with fu:=m.fu-1 }
def Sm(g:Ga)(sc:List Int)(x:Wa)(m:M):M:=
 let a:=m.rd x.2.2.1
 let b:=m.rd x.2.2.2.1
 if x.1=1 then m.wr x.2.1 x.2.2.2.2.1
 else if x.1=2 then m.TK x (Ea (0-a)) true
 else if x.1=3 then m.TK x (if Ea (0-a)>a then Ea (0-a)else a) true
 else if x.1=4 then m.TK x (Ea (a+b)) true
 else if x.1=5 then m.TK x (Ea (a-b)) true
 else if x.1=6 then m.TK x (Ea (a * b)) true
 else if x.1=7 then(if b=0 then m.fail x.2.2.2.2.2.1 2 else if a= -2147483648/\b= -1 then m.fail x.2.2.2.2.2.1 3 else m.wr x.2.1 (Ea (Int.tdiv a b)))
 else if x.1=8 then(if b=0 then m.fail x.2.2.2.2.2.1 2 else m.wr x.2.1 (Int.tmod a b))
 else if x.1=9 then m.TK x (if b<a then b else a) false
 else if x.1=10 then m.TK x (if b>a then b else a) false
 else if x.1=11 then(if b<0\/(gx (de g) x.2.2.1.toNat fb).2.2.1<=b then m.fail x.2.2.2.2.2.1 4 else m.wr x.2.1 (gx (gx m.ar x.2.2.1.toNat []) b.toNat 0))
 else if x.1=12 then
  (if m.re=sc.length then{ m with en:=2 }
   else if gx sc m.re.toNat 0<(gx (jU g) x.2.2.1.toNat fb).2.2.1\/(gx (jU g) x.2.2.1.toNat fb).2.2.2<gx sc m.re.toNat 0 then{ m with en:=5,re:=m.re+1 }
   else{ m with re:=m.re+1,rg:=m.rg.set x.2.1.toNat (gx sc m.re.toNat 0) })
 else if x.1=13 then(if Qp a (gx (Nf g) x.2.1.toNat Bc).2.1=true then m.wr x.2.1 a else m.fail x.2.2.2.2.2.1 1)
 else if x.1=14 then
  (if b<0\/(gx (de g) x.2.2.1.toNat fb).2.2.1<=b then m.fail x.2.2.2.2.2.1 4
   else if Qp (m.rd x.2.1) (gx (de g) x.2.2.1.toNat fb).2.1=true then{ m with ar:=m.ar.set x.2.2.1.toNat ((gx m.ar x.2.2.1.toNat []).set b.toNat (m.rd x.2.1)) }else m.fail x.2.2.2.2.2.1 1)
 else if x.1=15 then(if oE x.2.2.2.2.1 a b=true then m else{ m with at_:=x.2.2.2.2.2.2.2 })
 else if x.1=17 then
  (if ¬g.2.2.2.1=0/\m.ti=g.2.2.2.1 then{ m with en:=3 }
   else if m.fu=0 then{ m with en:=4 }
   else if m.ma.length<64 then{ m with fu:=m.fu-1,ma:=m.ma++[m.rg.take (Nf g).length] }else{ m with fu:=m.fu-1 })
 else if x.1=18 then{ m with ti:=Ea (m.ti+1) }
 else if x.1=20 then m.NN
 else if x.1=21 then m.fail x.2.2.2.2.2.1 5
 else m
abbrev Wz(x:Wa):Int:=x.2.2.2.2.2.2.1
abbrev M.to(m:M)(n:Int):M:={ m with at_:=n }
def step(g:Ga)(sc:List Int)(m:M):M:=Sm g sc (at' g m.at_.toNat) (m.to (Wz (at' g m.at_.toNat)))
structure Inv(g:Ga)(sc:List Int)(m:M):Prop where
 at0:m.en=0->0<=m.at_/\m.at_<(g.1.length:Int)
 rg:(m.rg.length:Int)=g.2.2.1
 al:m.ar.length=(de g).length
 az:∀i,i<(de g).length->((gx m.ar i []).length:Int)=(gx (de g) i fb).2.2.1
 ma:m.ma.length<=64
 re:0<=m.re/\m.re<=sc.length
 fu:0<=m.fu/\m.fu<=1000000
 er:m.en=1->∃j,j<g.1.length/\m.si=(at' g j).2.2.2.2.2.1/\1<=m.ki/\m.ki<=5
end Go.U
end
section
set_option maxRecDepth 20000
namespace Go.U
open Go
section
variable {x:Wa}{c:Bool}{g1:List Wa}{g2 g3 g4:Int}{g5:List Cb}{g6:List Zb}{g7:List Cb}{g8:List Aa}{sc:List Int}{fu nx en si ki ti re:Int}{rg:List Int}{ar ma:List (List Int)}
theorem Ee{X:Type}{b:Bool}{y:Option X}(h:b=true):ask b y=y:=by subst h;rfl
def aI(c:Bool)(x:Wa)(v en si ki:Int)(rg:List Int):Int×Int×Int×List Int:=cond (c&& !(Qp v 3)) (1,x.2.2.2.2.2.1,1,rg) (en,si,ki,rg.set x.2.1.toNat v)
theorem BX(h:V.ja x.2.1 rg.length=true):Yr (x,g1,g2,g3,g4,g5,g6,g7,g8,sc,fu,nx,en,si,ki,ti,re,rg,ar,ma)=some (rg.set x.2.1.toNat x.2.2.2.2.1):=by
 simp only[Yr,lA,h,Oa]
section
variable (ha:V.ja x.2.2.1 rg.length=true)(hb:V.ja x.2.2.2.1 rg.length=true)(hd:V.ja x.2.1 rg.length=true)
include ha hb hd
theorem NX:As (x,c,g1,g2,g3,g4,g5,g6,g7,g8,sc,fu,nx,en,si,ki,ti,re,rg,ar,ma)=some (aI c x (Ea (0-gx rg x.2.2.1.toNat 0)) en si ki rg):=by
 simp only[As,oA,ha,hb,hd,Oa,zo _ 3 (by decide) (by decide),ga,aI];cases c<;>cases Qp (Ea (0-gx rg x.2.2.1.toNat 0)) 3<;>rfl
theorem KX:js (x,c,g1,g2,g3,g4,g5,g6,g7,g8,sc,fu,nx,en,si,ki,ti,re,rg,ar,ma)=some (aI c x (if Ea (0-gx rg x.2.2.1.toNat 0)>gx rg x.2.2.1.toNat 0 then Ea (0-gx rg x.2.2.1.toNat 0)else gx rg x.2.2.1.toNat 0) en si ki rg):=by
 simp only[js,nA,ha,hb,hd,Oa,zo _ 3 (by decide) (by decide),ga,aI];generalize(if Ea (0-gx rg x.2.2.1.toNat 0)>gx rg x.2.2.1.toNat 0 then Ea (0-gx rg x.2.2.1.toNat 0)else gx rg x.2.2.1.toNat 0)=v;cases c<;>cases Qp v 3<;>rfl
theorem HX:Zr (x,c,g1,g2,g3,g4,g5,g6,g7,g8,sc,fu,nx,en,si,ki,ti,re,rg,ar,ma)=some (aI c x (Ea (gx rg x.2.2.1.toNat 0+gx rg x.2.2.2.1.toNat 0)) en si ki rg):=by
 simp only[Zr,mA,ha,hb,hd,Oa,zo _ 3 (by decide) (by decide),ga,aI];cases c<;>cases Qp (Ea (gx rg x.2.2.1.toNat 0+gx rg x.2.2.2.1.toNat 0)) 3<;>rfl
theorem uS:yn (x,c,g1,g2,g3,g4,g5,g6,g7,g8,sc,fu,nx,en,si,ki,ti,re,rg,ar,ma)=some (aI c x (Ea (gx rg x.2.2.1.toNat 0-gx rg x.2.2.2.1.toNat 0)) en si ki rg):=by
 simp only[yn,Rv,ha,hb,hd,Oa,zo _ 3 (by decide) (by decide),ga,aI];cases c<;>cases Qp (Ea (gx rg x.2.2.1.toNat 0-gx rg x.2.2.2.1.toNat 0)) 3<;>rfl
theorem rS:xn (x,c,g1,g2,g3,g4,g5,g6,g7,g8,sc,fu,nx,en,si,ki,ti,re,rg,ar,ma)=some (aI c x (Ea (gx rg x.2.2.1.toNat 0 * gx rg x.2.2.2.1.toNat 0)) en si ki rg):=by
 simp only[xn,Qv,ha,hb,hd,Oa,zo _ 3 (by decide) (by decide),ga,aI];cases c<;>cases Qp (Ea (gx rg x.2.2.1.toNat 0 * gx rg x.2.2.2.1.toNat 0)) 3<;>rfl
theorem oS:vn (x,c,g1,g2,g3,g4,g5,g6,g7,g8,sc,fu,nx,en,si,ki,ti,re,rg,ar,ma)=some (aI c x (if gx rg x.2.2.2.1.toNat 0<gx rg x.2.2.1.toNat 0 then gx rg x.2.2.2.1.toNat 0 else gx rg x.2.2.1.toNat 0) en si ki rg):=by
 simp only[vn,Pv,ha,hb,hd,Oa,zo _ 3 (by decide) (by decide),ga,aI];generalize(if gx rg x.2.2.2.1.toNat 0<gx rg x.2.2.1.toNat 0 then gx rg x.2.2.2.1.toNat 0 else gx rg x.2.2.1.toNat 0)=v;cases c<;>cases Qp v 3<;>rfl
theorem lS:tn (x,c,g1,g2,g3,g4,g5,g6,g7,g8,sc,fu,nx,en,si,ki,ti,re,rg,ar,ma)=some (aI c x (if gx rg x.2.2.2.1.toNat 0>gx rg x.2.2.1.toNat 0 then gx rg x.2.2.2.1.toNat 0 else gx rg x.2.2.1.toNat 0) en si ki rg):=by
 simp only[tn,Ov,ha,hb,hd,Oa,zo _ 3 (by decide) (by decide),ga,aI];generalize(if gx rg x.2.2.2.1.toNat 0>gx rg x.2.2.1.toNat 0 then gx rg x.2.2.2.1.toNat 0 else gx rg x.2.2.1.toNat 0)=v;cases c<;>cases Qp v 3<;>rfl
theorem iS(h7:x.1=7):ik (x,g1,g2,g3,g4,g5,g6,g7,g8,sc,fu,nx,en,si,ki,ti,re,rg,ar,ma)=some (if gx rg x.2.2.2.1.toNat 0=0 then(1,x.2.2.2.2.2.1,2,rg)else if gx rg x.2.2.1.toNat 0= -2147483648/\gx rg x.2.2.2.1.toNat 0= -1 then(1,x.2.2.2.2.2.1,3,rg)else(en,si,ki,rg.set x.2.1.toNat (Ea (Int.tdiv (gx rg x.2.2.1.toNat 0) (gx rg x.2.2.2.1.toNat 0))))):=by
 simp only[ik,Nv,ha,hb,hd,Oa,h7];by_cases h0:gx rg x.2.2.2.1.toNat 0=0
 ·simp[h0]
 ·by_cases h1:gx rg x.2.2.1.toNat 0= -2147483648
  ·by_cases h2:gx rg x.2.2.2.1.toNat 0= -1
   ·simp[h1,h2]
   ·simp[h0,h1,h2]
  ·simp[h0,h1]
theorem fS(h8:x.1=8):ik (x,g1,g2,g3,g4,g5,g6,g7,g8,sc,fu,nx,en,si,ki,ti,re,rg,ar,ma)=some (if gx rg x.2.2.2.1.toNat 0=0 then(1,x.2.2.2.2.2.1,2,rg)else(en,si,ki,rg.set x.2.1.toNat (Int.tmod (gx rg x.2.2.1.toNat 0) (gx rg x.2.2.2.1.toNat 0)))):=by
 simp only[ik,Nv,ha,hb,hd,Oa,h8];by_cases h0:gx rg x.2.2.2.1.toNat 0=0<;>simp[h0]
end
theorem wF(hb:V.ja x.2.2.2.1 rg.length=true)(hA:V.ja x.2.2.1 g7.length=true)(hr:V.ja x.2.2.1 ar.length=true)(hl:((gx ar x.2.2.1.toNat []).length:Int)=(gx g7 x.2.2.1.toNat fb).2.2.1):
  ql (x,g1,g2,g3,g4,g5,g6,g7,g8,sc,fu,nx,en,si,ki,ti,re,rg,ar,ma)=some (if gx rg x.2.2.2.1.toNat 0<0\/(gx g7 x.2.2.1.toNat fb).2.2.1<=gx rg x.2.2.2.1.toNat 0 then .inl ()else .inr (x.2.2.1.toNat,(gx rg x.2.2.2.1.toNat 0).toNat)):=by
 simp only[ql,uw,hb,hA,hr,Oa];by_cases h1:gx rg x.2.2.2.1.toNat 0<0
 ·simp[h1]
 ·by_cases h2:(gx g7 x.2.2.1.toNat fb).2.2.1<=gx rg x.2.2.2.1.toNat 0
  ·simp[h1,h2]
  ·simp only[h1,h2,decide_false,cond_false,wj (show 0<=gx rg x.2.2.2.1.toNat 0 by omega) (show gx rg x.2.2.2.1.toNat 0<((gx ar x.2.2.1.toNat []).length:Int)by omega),Oa,or_self,if_false]
theorem gX(hb:V.ja x.2.2.2.1 rg.length=true)(hA:V.ja x.2.2.1 g7.length=true)(hr:V.ja x.2.2.1 ar.length=true)(hl:((gx ar x.2.2.1.toNat []).length:Int)=(gx g7 x.2.2.1.toNat fb).2.2.1)(hd:V.ja x.2.1 rg.length=true):
  Xr (x,g1,g2,g3,g4,g5,g6,g7,g8,sc,fu,nx,en,si,ki,ti,re,rg,ar,ma)=some (if gx rg x.2.2.2.1.toNat 0<0\/(gx g7 x.2.2.1.toNat fb).2.2.1<=gx rg x.2.2.2.1.toNat 0 then(1,x.2.2.2.2.2.1,4,rg)else(en,si,ki,rg.set x.2.1.toNat (gx (gx ar x.2.2.1.toNat []) (gx rg x.2.2.2.1.toNat 0).toNat 0))):=by
 simp only[Xr,kA,wF hb hA hr hl,ga];split
 ·rfl
 ·simp only[Sum.elim_inr,hd,Oa]
theorem RW(hb:V.ja x.2.2.2.1 rg.length=true)(hA:V.ja x.2.2.1 g7.length=true)(hr:V.ja x.2.2.1 ar.length=true)(hl:((gx ar x.2.2.1.toNat []).length:Int)=(gx g7 x.2.2.1.toNat fb).2.2.1)(hd:V.ja x.2.1 rg.length=true)(ht:1<=(gx g7 x.2.2.1.toNat fb).2.1/\(gx g7 x.2.2.1.toNat fb).2.1<=3):
  Tr (x,g1,g2,g3,g4,g5,g6,g7,g8,sc,fu,nx,en,si,ki,ti,re,rg,ar,ma)=some (if gx rg x.2.2.2.1.toNat 0<0\/(gx g7 x.2.2.1.toNat fb).2.2.1<=gx rg x.2.2.2.1.toNat 0 then(1,x.2.2.2.2.2.1,4,ar)
   else if Qp (gx rg x.2.1.toNat 0) (gx g7 x.2.2.1.toNat fb).2.1=true then(en,si,ki,ar.set x.2.2.1.toNat ((gx ar x.2.2.1.toNat []).set (gx rg x.2.2.2.1.toNat 0).toNat (gx rg x.2.1.toNat 0)))else(1,x.2.2.2.2.2.1,1,ar)):=by
 simp only[Tr,gA,wF hb hA hr hl,ga];split
 ·rfl
 ·simp only[Sum.elim_inr,hd,hA,Oa,zo _ _ ht.1 ht.2,ga];cases Qp (gx rg x.2.1.toNat 0) (gx g7 x.2.2.1.toNat fb).2.1<;>rfl
theorem YW(hA:V.ja x.2.2.1 g5.length=true)(hd:V.ja x.2.1 rg.length=true)(h0:0<=re)(h1:re<=sc.length)(hs:sc.length<=9223372036854775807):
  Vr (x,g1,g2,g3,g4,g5,g6,g7,g8,sc,fu,nx,en,si,ki,ti,re,rg,ar,ma)=some (if re=sc.length then(2,re,rg)else if gx sc re.toNat 0<(gx g5 x.2.2.1.toNat fb).2.2.1\/(gx g5 x.2.2.1.toNat fb).2.2.2<gx sc re.toNat 0 then(5,re+1,rg)else(en,re+1,rg.set x.2.1.toNat (gx sc re.toNat 0))):=by
 simp only[Vr,jA,nt];by_cases h:re=sc.length
 ·simp[h]
 ·have w:Ea (re+1)=re+1:=Qb (by omega) (by omega);simp only[h,decide_false,cond_false,wj h0 (show re<(sc.length:Int)by omega),hA,Oa,w,if_false];by_cases k1:gx sc re.toNat 0<(gx g5 x.2.2.1.toNat fb).2.2.1
  ·simp[k1]
  ·by_cases k2:(gx g5 x.2.2.1.toNat fb).2.2.2<gx sc re.toNat 0
   ·simp[k1,k2]
   ·simp[k1,k2,hd,Oa]
theorem VW(ha:V.ja x.2.2.1 rg.length=true)(hS:V.ja x.2.1 g6.length=true)(hd:V.ja x.2.1 rg.length=true)(ht:1<=(gx g6 x.2.1.toNat Bc).2.1/\(gx g6 x.2.1.toNat Bc).2.1<=3):
  Ur (x,g1,g2,g3,g4,g5,g6,g7,g8,sc,fu,nx,en,si,ki,ti,re,rg,ar,ma)=some (if Qp (gx rg x.2.2.1.toNat 0) (gx g6 x.2.1.toNat Bc).2.1=true then(en,si,ki,rg.set x.2.1.toNat (gx rg x.2.2.1.toNat 0))else(1,x.2.2.2.2.2.1,1,rg)):=by
 simp only[Ur,iA,ha,hS,hd,Oa,zo _ _ ht.1 ht.2,ga];cases Qp (gx rg x.2.2.1.toNat 0) (gx g6 x.2.1.toNat Bc).2.1<;>rfl
theorem OW(ha:V.ja x.2.2.1 rg.length=true)(hb:V.ja x.2.2.2.1 rg.length=true)(h1:14<=x.2.2.2.2.1)(h2:x.2.2.2.2.1<=19):
  Sr (x,g1,g2,g3,g4,g5,g6,g7,g8,sc,fu,nx,en,si,ki,ti,re,rg,ar,ma)=some (if oE x.2.2.2.2.1 (gx rg x.2.2.1.toNat 0) (gx rg x.2.2.2.1.toNat 0)=true then nx else x.2.2.2.2.2.2.2):=by
 simp only[Sr,fA,ha,hb,Oa,oE];generalize x.2.2.2.2.1=n at *
 generalize gx rg x.2.2.1.toNat 0=a;generalize gx rg x.2.2.2.1.toNat 0=b;have w:Ea (n-14)=n-14:=Qb (by omega) (by omega);rw[w];obtain rfl|rfl|rfl|rfl|rfl|rfl:n=14\/n=15\/n=16\/n=17\/n=18\/n=19:=by omega
 ·show cond (!(decide (a=b))) _ _=_;by_cases h:a=b<;>simp[h]
 ·show cond (!(!(decide (a=b)))) _ _=_;by_cases h:a=b<;>simp[h]
 ·show cond (!(decide (a<b))) _ _=_;by_cases h:a<b<;>simp[h]
 ·show cond (!(decide (a<=b))) _ _=_;by_cases h:a<=b<;>simp[h]
 ·show cond (!(decide (b<a))) _ _=_;by_cases h:b<a<;>simp[h]
 ·show cond (!(decide (b<=a))) _ _=_;by_cases h:b<=a<;>simp[h]
theorem HJ(h0:0<=fu)(h1:fu<=1000000):gk (g1,g2,g3,g4,g5,g6,g7,g8,sc,fu,nx,en,si,ki,ti,re,rg,ar,ma)=some (if fu=0 then(false,0,4)else(true,fu-1,en)):=by
 simp only[gk,bA];by_cases h:fu=0
 ·simp[h]
 ·have w:Ea (fu-1)=fu-1:=Qb (by omega) (by omega);simp[h,w]
theorem sy{l:List Int}{n:Nat}:qk 0 n l=l.take n:=rfl
theorem HY(h:g6.length<=rg.length)(hr:rg.length<=10000):Xl (g1,g2,g3,g4,g5,g6,g7,g8,sc,fu,nx,en,si,ki,ti,re,rg,ar,ma)=some (rg.take g6.length):=by
 simp only[Xl,uA,nt];have e:fa (g6.length:Int)-0=g6.length:=by omega
 have hl:(qk 0 (fa (g6.length:Int)-0) rg).length<=10000:=by rw[e,sy,ic];omega
 refine(Ee (b:=decide (0<=(0:Int))&&decide ((0:Int)<=(g6.length:Int))&&decide ((g6.length:Int)<=(rg.length:Int))) (by simp only[Va,decide_eq_true_eq];omega)).trans ?_;refine(Ee (b:=decide ((qk 0 (fa (g6.length:Int)-0) rg).length * 8<=70368744177664)&&decide ((qk 0 (fa (g6.length:Int)-0) rg).length<9223372036854775808)) (by simp only[Va,decide_eq_true_eq];omega)).trans ?_;show some (qk 0 (fa (g6.length:Int)-0) rg)=_;rw[e];rfl
theorem GW(h0:0<=fu)(h1:fu<=1000000):Qr (x,g1,g2,g3,g4,g5,g6,g7,g8,sc,fu,nx,en,si,ki,ti,re,rg,ar,ma)=some (if fu=0 then(0,4)else(fu-1,en)):=by
 simp only[Qr,dA,HJ h0 h1,ga];split<;>rfl
theorem LW(h0:0<=fu)(h1:fu<=1000000)(h:g6.length<=rg.length)(hr:rg.length<=10000)(hm:ma.length<=64):
  Rr (x,g1,g2,g3,g4,g5,g6,g7,g8,sc,fu,nx,en,si,ki,ti,re,rg,ar,ma)=some (if ¬g4=0/\ti=g4 then .inl (fu,3)else if fu=0 then .inl (0,4)else if ma.length<64 then .inr (fu-1,en,ma++[rg.take g6.length])else .inl (fu-1,en)):=by
 have tail:(gk (g1,g2,g3,g4,g5,g6,g7,g8,sc,fu,nx,en,si,ki,ti,re,rg,ar,ma)).bind (fun r1=>
   cond r1.1 (cond (decide ((nt (da ma))<(64:Int))) ((Xl (g1,g2,g3,g4,g5,g6,g7,g8,sc,r1.2.1,nx,r1.2.2,si,ki,ti,re,rg,ar,ma)).bind fun r2=>
    ask (decide (((da ma)+(da ([r2]:List (List Int)))) * 24<=70368744177664)&&decide (((da ma)+(da ([r2]:List (List Int))))<9223372036854775808)) (some (Sum.inr ((r1.2.1,r1.2.2,(ma++([r2]:List (List Int))))):(Int×Int) ⊕ (Int×Int×(List (List Int))))))
    (some (Sum.inl (r1.2.1,r1.2.2)))) (some (Sum.inl (r1.2.1,r1.2.2))))=some (if fu=0 then .inl (0,4)else if ma.length<64 then .inr (fu-1,en,ma++[rg.take g6.length])else .inl (fu-1,en)):=by
  rw[HJ h0 h1,ga];by_cases k:fu=0
  ·simp[k]
  ·simp only[k,if_false,cond_true,HY h hr,ga,nt];rw[Ee (b:=decide ((ma.length+da ([List.take g6.length rg]:List (List Int))) * 24<=70368744177664)&&decide (ma.length+da ([List.take g6.length rg]:List (List Int))<9223372036854775808)) (by simp;omega)];by_cases k2:ma.length<64
   ·have:((ma.length:Int)<64):=by omega
    simp[k2,this]
   ·have:¬((ma.length:Int)<64):=by omega
    simp[k2,this]
 unfold Rr eA;by_cases k1:g4=0
 ·simp only[k1,decide_true,Zf,cond_false,not_true_eq_false,false_and,if_false];subst k1;exact tail
 ·by_cases k2:ti=g4
  ·simp[k1,k2]
  ·simp only[k1,k2,decide_false,gf,cond_true,cond_false,and_false,if_false];exact tail
end
end Go.U
end
section
set_option maxRecDepth 20000
namespace Go.U
open Go
theorem Xc{T E:Type}{step:T->Option (T ⊕ E)}{n:Nat}(s:Nat->T)(x:E)(hn:n<18446744073709551616)(μ:T->Nat)(R7:∀i,i<=n->μ (s i)=n-i)(hs:∀i,i<n->step (s i)=some (.inl (s (i+1))))(he:step (s n)=some (.inr x)):Ma step (s 0)=some x:=by
 obtain⟨e,h1,h2⟩:=Tg (fun t=>∃i,i<=n/\t=s i) μ (fun e=>e=x) ⟨0,je _,rfl⟩ (by rw[R7 0 (je _)];omega) (fun t⟨i,hi,ht⟩=>by
  subst ht;by_cases h:i<n
  ·exact .inl ⟨_,hs i h,⟨i+1,h,rfl⟩,by rw[R7 _ h,R7 _ hi];omega⟩
  ·have:i=n:=by omega
   subst this;exact .inr ⟨_,he,rfl⟩)
 rw[h1,h2]
theorem If{α:Type}{l:List α}{i:Nat}(d:α)(h:i<l.length):l.take (i+1)=l.take i++[gx l i d]:=by
 rw[List.take_add_one,gp (d:=d) h];rfl
def Small(ar:List (List Int)):Prop:=ar.length<=16/\∀i,i<ar.length->(gx ar i []).length<=256
section
variable {g:Ga}{D:List Int}{sc:List Int}{m:M}
theorem Inv.small(hI:Inv g sc m)(hF:Mf g D):Small m.ar:=⟨by rw[hI.al];exact hF.A,fun i hi=>by
 rw[hI.al]at hi;have h1:=hI.az i hi;have h2:=(hF.I.a i hi).2.2;omega⟩
theorem Inv.aD(hI:Inv g sc m)(hF:Mf g D):m.rg.length<=4160/\(Nf g).length<=m.rg.length:=by
 have h1:=hI.rg;have h2:=hF.defs.aD;have h3:=hF.defs.len;have h4:=hF.S;omega
theorem Av(hF:Mf g D)(hI:Inv g sc m){j:Nat}(hj:j<g.1.length){y:Int}(hy:y∈se (at' g j)):V.ja y m.rg.length=true:=by
 obtain⟨h1,h2,_⟩:=(hF.oD j hj).use y hy;exact wj h1 (by have:=hI.rg;omega)
theorem kO(hF:Mf g D)(hI:Inv g sc m){j:Nat}(hj:j<g.1.length)(h:1<=(at' g j).1/\(at' g j).1<=12):V.ja (at' g j).2.1 m.rg.length=true:=by
 obtain⟨k,h1,h2⟩:=hF.defs.up j hj (mq.2 h);have h3:=Za h2;have h4:=hF.defs.aD;have h5:=hI.rg;rw[h1];exact fg (by omega)
theorem DV(hF:Mf g D)(hI:Inv g sc m){j:Nat}(hj:j<g.1.length)(h:(at' g j).1=2\/(at' g j).1=3):V.ja (at' g j).2.2.2.1 m.rg.length=true:=by
 rw[(hF.oD j hj).un h];have:(at' g j).2.2.1∈se (at' g j):=by rcases h with h|h<;>simp[se,h]
 have h2:=(hF.oD j hj).use _ this;obtain⟨h3,h4,_⟩:=h2;exact wj (qh _) (by have:=hI.rg;omega)
end
def mkw(w:Bool×Bool)(way:Int):Bool×Bool:=if way=0 then(true,w.2)else(w.1,true)
def Vo(x:Wa)(m:M):Int:=if x.1=15/\oE x.2.2.2.2.1 (m.rd x.2.2.1) (m.rd x.2.2.2.1)=false then 1 else 0
abbrev UK:=Int×List Bool×List (Bool×Bool)×Int
def sj(g:Ga)(o:UK)(m:M):UK:=
 (m.at_,o.2.1.set m.at_.toNat true,(if 0<=o.1 then o.2.2.1.set o.1.toNat (mkw (gx o.2.2.1 o.1.toNat (false,false)) o.2.2.2)else o.2.2.1),Vo (at' g m.at_.toNat) m)
structure J1(g:Ga)(o:UK):Prop where
 pl:o.2.1.length=g.1.length
 wl:o.2.2.1.length=g.1.length
 la:o.1<(g.1.length:Int)
 wy:o.2.2.2=0\/o.2.2.2=1
theorem IU(x:Wa)(m:M):Vo x m=0\/Vo x m=1:=by unfold Vo;split<;>simp
theorem J1.next{g:Ga}{o:UK}(h:J1 g o){m:M}(ha:m.at_<(g.1.length:Int)):J1 g (sj g o m):=⟨by simp[sj,h.pl],by simp only[sj];split<;>simp[h.wl],ha,IU _ _⟩
theorem Mab(x:Wa)(rg:List Int)(ha:V.ja x.2.2.1 rg.length=true)(hb:V.ja x.2.2.2.1 rg.length=true)(h1:14<=x.2.2.2.2.1)(h2:x.2.2.2.2.1<=19):
  iw (x,rg)=some (oE x.2.2.2.2.1 (gx rg x.2.2.1.toNat 0) (gx rg x.2.2.2.1.toNat 0)):=by
 simp only[iw,gP,ha,hb,Oa,oE];generalize x.2.2.2.2.1=n at *
 generalize gx rg x.2.2.1.toNat 0=a;generalize gx rg x.2.2.2.1.toNat 0=b;have w:Ea (n-14)=n-14:=Qb (by omega) (by omega);rw[w];obtain rfl|rfl|rfl|rfl|rfl|rfl:n=14\/n=15\/n=16\/n=17\/n=18\/n=19:=by omega
 all_goals rfl
theorem Pab{g:Ga}{D:List Int}{sc:List Int}{m:M}{o:UK}(hF:Mf g D)(hI:Inv g sc m)(hJ:J1 g o)(h0:0<=m.at_/\m.at_<(g.1.length:Int))(er:List Aa)(z2 z3 z4:Int)(z5:List Cb)(z6:List Zb)(z7:List Cb)(z8:List Aa)(ti:Int)(e1:List (List Int)):
  fF (m.at_,ti,o.1,o.2.1,o.2.2.1,er,o.2.2.2,g.1,z2,z3,z4,z5,z6,z7,z8,m.rg,e1)=some ((sj g o m).2.1,(sj g o m).2.2.1,(sj g o m).2.2.2):=by
 obtain⟨j,hj⟩:=Pf h0.1;have It:j<g.1.length:=by omega
 have p1:V.ja m.at_ o.2.1.length=true:=wj h0.1 (by rw[hJ.pl];exact h0.2);have p2:V.ja m.at_ g.1.length=true:=wj h0.1 h0.2;have hw:∀(P W:_) ,(cond (decide ((gx g.1 (fa m.at_) Ta).1=(15:Int))) ((iw ((gx g.1 (fa m.at_) Ta),m.rg)).bind fun r1=>cond (!r1) (some (P,W,(1:Int))) (some (P,W,0))) (some (P,W,0)):Option (List Bool×List (Bool×Bool)×Int))=some (P,W,Vo (at' g m.at_.toNat) m):=fun P W=>by
  have Uk:gx g.1 (fa m.at_) Ta=at' g j:=by rw[hj];rfl
  rw[Uk,show m.at_.toNat=j by omega];by_cases Zz:(at' g j).1=15
  ·have ha:(at' g j).2.2.1∈se (at' g j):=by simp[se,Zz]
   have hb:(at' g j).2.2.2.1∈se (at' g j):=by simp[se,Zz]
   obtain⟨t1,t2⟩:=(hF.oD j It).oE Zz;rw[Mab _ _ (Av hF hI It ha) (Av hF hI It hb) t1 t2];simp only[Zz,decide_true,cond_true,ga,Vo,M.rd,true_and];cases oE (at' g j).2.2.2.2.1 (gx m.rg (at' g j).2.2.1.toNat 0) (gx m.rg (at' g j).2.2.2.1.toNat 0)<;>rfl
  ·simp[Zz,Vo]
 simp only[fF,iP,p1,p2,Oa];by_cases hl:0<=o.1
 ·have p3:V.ja o.1 o.2.2.1.length=true:=wj hl (by rw[hJ.wl];exact hJ.la);simp only[hl,decide_true,cond_true,p3,Oa];rcases hJ.wy with h|h
  ·simp only[h,decide_true,cond_true,hw];simp only[sj,hl,if_true,h,mkw]
  ·have d:¬(1:Int)=0:=by decide
   simp only[h,d,decide_true,decide_false,cond_true,cond_false,hw];simp only[sj,hl,if_true,h,mkw,d,if_false]
 ·simp only[hl,decide_false,cond_false,hw];simp only[sj,hl,if_false]
end Go.U
end
