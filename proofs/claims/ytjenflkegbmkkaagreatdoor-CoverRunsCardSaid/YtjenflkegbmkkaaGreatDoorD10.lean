/- What these Lean functions compute: plain arithmetic of congruences, the checks of a graph, the values of its registers. -/
import Derived.Test.YtjenflkegbmkkaaGreatDoorD6
set_option linter.unusedVariables false
set_option linter.unusedSimpArgs false
set_option linter.unusedSectionVars false
open Bool renaming and_eq_true→Va,not_true→Zf
open Int renaming reduceEq→Qi,lt_irrefl→Xb,toNat→fa,eq_ofNat_of_zero_le→Pf,toNat_natCast→La
open List renaming length_take→ic,length→da,length_singleton→Tj,replicate→Ca,length_append→qd,length_replicate→Of,take_length→Af
open Option renaming bind_some→ga,bind→FA
section
set_option maxRecDepth 20000
namespace Go.U
open Go
theorem Aae(v:Int):Qp v 3=(decide (-2147483648<=v)&&decide (v<2147483648)):=rfl
theorem iQ(t x:Int)(h1:1<=t)(h3:t<=3):uu (t,x)=some (Qp x t):=by
 have c:∀(p:Bool)(q:Bool),(cond p (some q) (some false):Option Bool)=some (p&&q):=fun p q=>by cases p<;>rfl
 simp only[uu,FH,c];obtain rfl|rfl|rfl:t=1\/t=2\/t=3:=by omega
 ·rfl
 ·rfl
 ·simp only[Qi,decide_false,cond_false,Aae];congr 2;exact decide_eq_decide.2 (by omega)
section
variable {x:Wa}{g1:List Wa}{g2 g3 g4:Int}{g5:List Cb}{g6:List Zb}{g7:List Cb}{g8:List Aa}{sc:List Int}{fu nx en si ki ti re:Int}{rg:List Int}{ar ma:List (List Int)}
def ck(v:Int):Int×Int:=cond (Qp v 3) (v,0) (0,1)
def rk(x:Wa)(a b:Int):Int×Int:=
 if x.1=1 then(x.2.2.2.2.1,0)else if x.1=2 then ck (Ea (0-a))else if x.1=3 then ck (if Ea (0-a)>a then Ea (0-a)else a)
 else if x.1=4 then ck (Ea (a+b))else if x.1=5 then ck (Ea (a-b))else if x.1=6 then ck (Ea (a * b))
 else if x.1=7 then(if b=0 then(0,2)else if a= -2147483648/\b= -1 then(0,3)else(Ea (Int.tdiv a b),0))
 else if x.1=8 then(if b=0 then(0,2)else(Int.tmod a b,0))else if x.1=9 then(if b<a then b else a,0)else(if b>a then b else a,0)
theorem bB(v:Int)(q):ij.m (v,q)=some (!Qp v 3):=by
 simp only[PD.m,ij,Aae];by_cases h:v< -2147483648
 ·have:¬-2147483648<=v:=by omega
  simp[h,this]
 ·have: -2147483648<=v:=by omega
  by_cases h2:2147483647<v
  ·have h3:¬v<2147483648:=by omega
   simp[h,this,h2,h3]
  ·have h3:v<2147483648:=by omega
   simp[h,this,h2,h3]
theorem J6(h1:1<=x.1)(R2:x.1<=10)(ha:x.1≠1->V.ja x.2.2.1 rg.length=true)(hb:x.1≠1->V.ja x.2.2.2.1 rg.length=true):
  Wk (x,g1,g2,g3,g4,g5,g6,g7,g8,sc,fu,nx,en,si,ki,ti,re,rg,ar,ma)=some (rk x (gx rg x.2.2.1.toNat 0) (gx rg x.2.2.2.1.toNat 0)):=by
 have kk:∀v:Int,(cond (!Qp v 3) (some ((0:Int),(1:Int))) (some (v,0)))=some (ck v):=fun v=>by unfold ck;cases Qp v 3<;>rfl
 obtain h|h|h|h|h|h|h|h|h|h:x.1=1\/x.1=2\/x.1=3\/x.1=4\/x.1=5\/x.1=6\/x.1=7\/x.1=8\/x.1=9\/x.1=10:=by omega
 ·simp only[Wk,Lq,rk,h,decide_true,cond_true,if_true]
 all_goals
  have ha:=ha (by omega);have hb:=hb (by omega);simp only[Wk,Lq,rk,h,Qi,decide_true,decide_false,cond_true,cond_false,if_true,if_false,ha,hb,Oa];generalize gx rg x.2.2.1.toNat 0=a;generalize gx rg x.2.2.2.1.toNat 0=b;simp only[PD.m,zn,gl,fl,Zk,Yk,Xk,jj,h,Qi,decide_true,decide_false,cond_true,cond_false,ga,Sum.elim_inl,Sum.elim_inr]
 ·exact(congrArg (FA · _) (bB _ _)).trans (kk _)
 ·have e:(cond (decide (a<0)) (some (Ea (0-a))) (some a))=some (if Ea (0-a)>a then Ea (0-a)else a):=by
   by_cases h0:a<0
   ·rw[decide_eq_true h0,cond_true];split
    ·rfl
    ·rename_i h1;congr 1;unfold Ea at h1 ⊢;rw[IntKind.wrap_i64]at h1 ⊢;omega
   ·rw[decide_eq_false h0,cond_false,if_neg (by unfold Ea;rw[IntKind.wrap_i64];omega)]
  rw[e,ga,ga];exact(congrArg (FA · _) (bB _ _)).trans (kk _)
 ·exact(congrArg (FA · _) (bB _ _)).trans (kk _)
 ·exact(congrArg (FA · _) (bB _ _)).trans (kk _)
 ·exact(congrArg (FA · _) (bB _ _)).trans (kk _)
 ·by_cases h0:b=0
  ·simp[h0]
  ·by_cases h1:a= -2147483648
   ·by_cases h2:b= -1
    ·simp[h1,h2]
    ·simp[h0,h1,h2]
   ·simp[h0,h1]
 ·by_cases h0:b=0<;>simp[h0]
 ·by_cases h0:a<b
  ·have:¬b<a:=by omega
   simp[h0,this]
  ·by_cases h1:b<a
   ·simp[h0,h1]
   ·have:a=b:=by omega
    simp[this]
 ·by_cases h0:b<a
  ·have:¬b>a:=by omega
   simp[h0,this]
  ·by_cases h1:b>a
   ·simp[h0,h1]
   ·have:a=b:=by omega
    simp[this]
end
end Go.U
end
section
set_option maxRecDepth 20000
namespace Go.U
open Go
abbrev YE:=Int×Int×Int×Int×Int
abbrev YN:=Int×Int×Int×Int×Int×List Int×List (List Int)×List (List Int)
def zL(m:M):YE ⊕ YN:=if m.en=0 then .inr (m.fu,m.at_,m.en,m.ti,m.re,m.rg,m.ar,m.ma)else .inl (m.fu,m.en,m.si,m.ki,m.re)
def o8(m:M):YE ⊕ YN:=if m.en=0 then .inr (m.at_,m.fu,m.en,m.ti,m.re,m.rg,m.ar,m.ma)else .inl (m.fu,m.en,m.si,m.ki,m.re)
abbrev YF:=Int×Int×Int×Int
def S_(m:M):YF ⊕ (Int×Int×Int×Int×List Int×List (List Int)×List (List Int)):=if m.en=0 then .inr (m.at_,m.fu,m.en,m.ti,m.rg,m.ar,m.ma)else .inl (m.fu,m.en,m.si,m.ki)
def o34(m:M):(Int×Int×Int×Int×List Int×List (List Int)) ⊕ YF:=if m.en=0 then .inl (m.at_,m.fu,m.en,m.ti,m.rg,m.ma)else .inr (m.fu,m.en,m.si,m.ki)
def R_(b:Bool)(m:M):YF ⊕ ((Int×Int×List (List Int)) ⊕ (Int×Int×Int×List Int)):=if m.en=0 then .inr (cond b (.inl (m.fu,m.en,m.ma)) (.inr (m.fu,m.en,m.ti,m.rg)))else .inl (m.fu,m.en,m.si,m.ki)
def o45(m:M):(Int×Int×Int×List Int) ⊕ YF:=if m.en=0 then .inl (m.fu,m.en,m.ti,m.rg)else .inr (m.fu,m.en,m.si,m.ki)
def o47(m:M):YF ⊕ (Int×Int×List Int):=if m.en=0 then .inr (m.fu,m.en,m.rg)else .inl (m.fu,m.en,m.si,m.ki)
section
variable {b:Bool}{x:Wa}{g1:List Wa}{g2 g3 g4:Int}{g5:List Cb}{g6:List Zb}{g7:List Cb}{g8:List Aa}{sc:List Int}{fu a si ki ti re n op:Int}{rg:List Int}{ar ma:List (List Int)}{m':M}
theorem p8(hb:decide (op=12)=b)(h:mg.m (n,op,b,x,g1,g2,g3,g4,g5,g6,g7,g8,sc,fu,a,0,si,ki,ti,re,rg,ar,ma)=some (o8 m')):Uh.m (n,op,false,x,g1,g2,g3,g4,g5,g6,g7,g8,sc,fu,a,0,si,ki,ti,re,rg,ar,ma)=some (o8 m'):=by
 subst hb;change (mg.m (n,op,decide (op=12),x,g1,g2,g3,g4,g5,g6,g7,g8,sc,fu,a,0,si,ki,ti,re,rg,ar,ma)).bind _=_;rw[h];unfold o8;split<;>rfl
theorem jR(hb:decide (op=13)=b)(h:lg.m (n,op,b,x,g1,g2,g3,g4,g5,g6,g7,g8,sc,fu,a,0,si,ki,ti,re,rg,ar,ma)=some (S_ m'))(h1:m'.re=re):mg.m (n,op,false,x,g1,g2,g3,g4,g5,g6,g7,g8,sc,fu,a,0,si,ki,ti,re,rg,ar,ma)=some (o8 m'):=by
 subst hb;subst h1;change (lg.m (n,op,decide (op=13),x,g1,g2,g3,g4,g5,g6,g7,g8,sc,fu,a,0,si,ki,ti,m'.re,rg,ar,ma)).bind _=_;rw[h];unfold S_ o8;split<;>rfl
theorem gV(hb:decide (op=14)=b)(h:kg.m (n,op,b,x,g1,g2,g3,g4,g5,g6,g7,g8,sc,fu,a,0,si,ki,ti,re,rg,ar,ma)=some (S_ m')):lg.m (n,op,false,x,g1,g2,g3,g4,g5,g6,g7,g8,sc,fu,a,0,si,ki,ti,re,rg,ar,ma)=some (S_ m'):=by
 subst hb;change (kg.m (n,op,decide (op=14),x,g1,g2,g3,g4,g5,g6,g7,g8,sc,fu,a,0,si,ki,ti,re,rg,ar,ma)).bind _=_;rw[h];unfold S_;split<;>rfl
theorem M7(hb:decide (op=15)=b)(h:kf.m (n,op,b,x,g1,g2,g3,g4,g5,g6,g7,g8,sc,fu,a,0,si,ki,ti,re,rg,ar,ma)=some (o34 m'))(h1:m'.ar=ar):kg.m (n,op,false,x,g1,g2,g3,g4,g5,g6,g7,g8,sc,fu,a,0,si,ki,ti,re,rg,ar,ma)=some (S_ m'):=by
 subst hb;subst h1;change (kf.m (n,op,decide (op=15),x,g1,g2,g3,g4,g5,g6,g7,g8,sc,fu,a,0,si,ki,ti,re,rg,m'.ar,ma)).bind _=_;rw[h];unfold o34 S_;split<;>rfl
theorem p34(hn1:op≠16)(hn2:op≠19)(hb:decide (op=17)=b)(h:fe.m (n,op,b,x,g1,g2,g3,g4,g5,g6,g7,g8,sc,fu,a,0,si,ki,ti,re,rg,ar,ma)=some (R_ false m'))(h1:m'.at_=n)(h2:m'.ma=ma):kf.m (n,op,false,x,g1,g2,g3,g4,g5,g6,g7,g8,sc,fu,a,0,si,ki,ti,re,rg,ar,ma)=some (o34 m'):=by
 subst hb;subst h1 h2;simp only[PD.m,kf,cond_false,decide_eq_false hn1,decide_eq_false hn2];change (fe.m (m'.at_,op,decide (op=17),x,g1,g2,g3,g4,g5,g6,g7,g8,sc,fu,a,0,si,ki,ti,re,rg,ar,m'.ma)).bind _=_;rw[h];unfold o34 R_;split<;>rfl
theorem Xai(h:fe.m (n,17,true,x,g1,g2,g3,g4,g5,g6,g7,g8,sc,fu,a,0,si,ki,ti,re,rg,ar,ma)=some (R_ true m'))(h1:m'.at_=n)(h2:m'.ti=ti)(h3:m'.rg=rg):kf.m (n,17,false,x,g1,g2,g3,g4,g5,g6,g7,g8,sc,fu,a,0,si,ki,ti,re,rg,ar,ma)=some (o34 m'):=by
 subst h1 h2 h3;change (fe.m (m'.at_,17,true,x,g1,g2,g3,g4,g5,g6,g7,g8,sc,fu,a,0,si,ki,m'.ti,re,m'.rg,ar,ma)).bind _=_;rw[h];unfold o34 R_;split<;>rfl
theorem p39(hb:decide (op=18)=b)(h:Hh.m (n,op,b,x,g1,g2,g3,g4,g5,g6,g7,g8,sc,fu,a,0,si,ki,ti,re,rg,ar,ma)=some (o45 m')):fe.m (n,op,false,x,g1,g2,g3,g4,g5,g6,g7,g8,sc,fu,a,0,si,ki,ti,re,rg,ar,ma)=some (R_ false m'):=by
 subst hb;change (Hh.m (n,op,decide (op=18),x,g1,g2,g3,g4,g5,g6,g7,g8,sc,fu,a,0,si,ki,ti,re,rg,ar,ma)).bind _=_;rw[h];unfold o45 R_;split<;>rfl
theorem p45(hb:decide (op=20)=b)(h:Qe.m (n,op,b,x,g1,g2,g3,g4,g5,g6,g7,g8,sc,fu,a,0,si,ki,ti,re,rg,ar,ma)=some (o47 m'))(h1:m'.ti=ti):Hh.m (n,op,false,x,g1,g2,g3,g4,g5,g6,g7,g8,sc,fu,a,0,si,ki,ti,re,rg,ar,ma)=some (o45 m'):=by
 subst hb;subst h1;change (Qe.m (n,op,decide (op=20),x,g1,g2,g3,g4,g5,g6,g7,g8,sc,fu,a,0,si,ki,m'.ti,re,rg,ar,ma)).bind _=_;rw[h];unfold o47 o45;split<;>rfl
end
end Go.U
end
section
set_option maxRecDepth 20000
namespace Go.U
open Go
def Cm(z fu:Int):Int:=if z<0 then z else fu
def up(z:Int)(m:M):M:={ m with fu:=Cm z m.fu }
section
variable {x:Wa}{g1:List Wa}{g2 g3 g4:Int}{g5:List Cb}{g6:List Zb}{g7:List Cb}{g8:List Aa}{sc:List Int}{fu a en si ki ti re n op:Int}{rg:List Int}{ar ma:List (List Int)}{m':M}
theorem RU{z:Int}(hz:z=0\/(z<0/\fu=0))(h1:0<=fu)(h2:fu<=1000000):jl (g1,g2,g3,g4,g5,g6,g7,g8,sc,Cm z fu,a,en,si,ki,ti,re,rg,ar,ma)=some (if fu=0 then(false,Cm z fu,4)else(true,Cm z (fu-1),en)):=by
 have e:∀y:Int,jl (g1,g2,g3,g4,g5,g6,g7,g8,sc,y,a,en,si,ki,ti,re,rg,ar,ma)=cond (decide (y<=0)) (some (false,y,4)) (some (true,Ea (y-1),en)):=fun y=>rfl
 rw[e];unfold Cm;rcases hz with rfl|⟨hz,rfl⟩
 ·by_cases h:fu=0
  ·subst h;rfl
  ·rw[if_neg (Xb 0),if_neg h,if_neg (Xb 0),decide_eq_false (show ¬fu<=0 by omega),Qb (by omega) (by omega)];rfl
 ·rw[if_pos hz,decide_eq_true (show z<=0 by omega)];rfl
theorem G_(h:g6.length<=rg.length)(hr:rg.length<=10000):Bn (g1,g2,g3,g4,g5,g6,g7,g8,sc,fu,a,en,si,ki,ti,re,rg,ar,ma)=some (rg.take g6.length):=by
 simp only[Bn,sw,nt];have e:fa (g6.length:Int)-0=g6.length:=by omega
 have hl:(qk 0 (fa (g6.length:Int)-0) rg).length<=10000:=by rw[e,sy,ic];omega
 refine(Ee (b:=decide (0<=(0:Int))&&decide ((0:Int)<=(g6.length:Int))&&decide ((g6.length:Int)<=(rg.length:Int))) (by simp only[Va,decide_eq_true_eq];omega)).trans ?_;refine(Ee (b:=decide ((qk 0 (fa (g6.length:Int)-0) rg).length * 8<=70368744177664)&&decide ((qk 0 (fa (g6.length:Int)-0) rg).length<9223372036854775808)) (by simp only[Va,decide_eq_true_eq];omega)).trans ?_;show some (qk 0 (fa (g6.length:Int)-0) rg)=_;rw[e];rfl
theorem C_(ha:V.ja x.2.2.1 rg.length=true)(hb:V.ja x.2.2.2.1 rg.length=true)(h1:14<=x.2.2.2.2.1)(h2:x.2.2.2.2.1<=19):Cn (x,g1,g2,g3,g4,g5,g6,g7,g8,sc,fu,a,en,si,ki,ti,re,rg,ar,ma)=some (oE x.2.2.2.2.1 (gx rg x.2.2.1.toNat 0) (gx rg x.2.2.2.1.toNat 0)):=by
 simp only[Cn,tw,ha,hb,Oa,oE];generalize x.2.2.2.2.1=n at *
 obtain rfl|rfl|rfl|rfl|rfl|rfl:n=14\/n=15\/n=16\/n=17\/n=18\/n=19:=by omega
 all_goals rfl
theorem D_(ha:V.ja x.2.2.1 rg.length=true)(hb:V.ja x.2.2.2.1 rg.length=true)(h1:14<=x.2.2.2.2.1)(h2:x.2.2.2.2.1<=19):vh (x,g1,g2,g3,g4,g5,g6,g7,g8,sc,fu,a,en,si,ki,ti,re,rg,ar,ma)=some (if oE x.2.2.2.2.1 (gx rg x.2.2.1.toNat 0) (gx rg x.2.2.2.1.toNat 0)=false then 1 else 0):=by
 have c:∀p:Bool,(cond p (some (0:Int)) (some 1))=some (if p=false then 1 else 0):=fun p=>by cases p<;>rfl
 simp only[vh,yw,ha,hb,Oa,oE,c];generalize x.2.2.2.2.1=n at *
 obtain rfl|rfl|rfl|rfl|rfl|rfl:n=14\/n=15\/n=16\/n=17\/n=18\/n=19:=by omega
 all_goals rfl
theorem low(h1:x.1≠11)(h2:x.1≠12)(h3:x.1≠13)(h4:x.1≠14)(h5:x.1≠15)(h6:x.1≠16)(h7:x.1≠17)(h8:x.1≠18)(h9:x.1≠19){b:Bool}(hb:decide (x.1=20)=b)
  (h:Qe.m (n,x.1,b,x,g1,g2,g3,g4,g5,g6,g7,g8,sc,fu,a,0,si,ki,ti,re,rg,ar,ma)=some (o47 m')) (e1:m'.at_=n) (e2:m'.ti=ti) (e3:m'.re=re) (e4:m'.ar=ar) (e5:m'.ma=ma):
  Uh.m (n,x.1,decide (x.1=11),x,g1,g2,g3,g4,g5,g6,g7,g8,sc,fu,a,0,si,ki,ti,re,rg,ar,ma)=some (o8 m'):=by
 rw[decide_eq_false h1];exact p8 (decide_eq_false h2) (jR (decide_eq_false h3) (gV (decide_eq_false h4) (M7 (decide_eq_false h5) (p34 h6 h9 (decide_eq_false h7) (p39 (decide_eq_false h8) (p45 hb h e2)) e1 e5) e4)) e3)
end
theorem QU{g:Ga}{sc:List Int}{x:Wa}{m:M}(h1:1<=x.1)(h2:x.1<=10):Sm g sc x m=if(rk x (m.rd x.2.2.1) (m.rd x.2.2.2.1)).2=0 then m.wr x.2.1 (rk x (m.rd x.2.2.1) (m.rd x.2.2.2.1)).1 else m.fail x.2.2.2.2.2.1 (rk x (m.rd x.2.2.1) (m.rd x.2.2.2.1)).2:=by
 have c:∀v,m.TK x v true=if(ck v).2=0 then m.wr x.2.1 (ck v).1 else m.fail x.2.2.2.2.2.1 (ck v).2:=fun v=>by unfold M.TK ck;cases Qp v 3<;>rfl
 have c2:∀v,m.TK x v false=m.wr x.2.1 v:=fun v=>rfl
 unfold Sm rk;generalize m.rd x.2.2.1=a;generalize m.rd x.2.2.2.1=b;obtain h|h|h|h|h|h|h|h|h|h:x.1=1\/x.1=2\/x.1=3\/x.1=4\/x.1=5\/x.1=6\/x.1=7\/x.1=8\/x.1=9\/x.1=10:=by omega
 all_goals simp only[h,Qi,if_true,if_false,c,c2]
 ·by_cases h0:b=0
  ·simp[h0]
  ·by_cases h1:a= -2147483648/\b= -1
   ·simp only[if_neg h0,if_pos h1];rfl
   ·simp only[if_neg h0,if_neg h1];rfl
 ·by_cases h0:b=0<;>simp[h0]
theorem Q6{g:Ga}{D:List Int}{sc:List Int}{m:M}(hF:Mf g D)(hs:sc.length<=9223372036854775807)(hI:Inv g sc m)(he:m.en=0){z:Int}(hz:z=0\/(z<0/\m.fu=0)):
  wg (g.1,g.2.1,g.2.2.1,g.2.2.2.1,g.2.2.2.2.1,g.2.2.2.2.2.1,g.2.2.2.2.2.2.1,g.2.2.2.2.2.2.2,sc,Cm z m.fu,m.at_,m.en,m.si,m.ki,m.ti,m.re,m.rg,m.ar,m.ma)=some (zL (up z (step g sc m))):=by
 have h0:=hI.at0 he;have hR:=hI.aD hF;obtain⟨j,hj⟩:=Pf h0.1;have It:j<g.1.length:=by omega
 have use:∀y,y∈se (at' g j)->V.ja y m.rg.length=true:=fun y hy=>Av hF hI It hy
 have dst:=kO hF hI It;have un:=DV hF hI It;have arI:=o_ hF hI It;have hG:=hF.oD j It;have b8:=hI.re;have Ll:=hI.fu;have hma:=hI.ma;have jc:step g sc m=Sm g sc (at' g j) (m.to (Wz (at' g j))):=by unfold step;rw[hj];rfl
 rw[jc];obtain⟨fu,a,en,si,ki,ti,re,rg,ar,ma⟩:=m;simp only at he h0 hj use dst un arI b8 Ll hma hR hz;subst he;subst hj;have Uk:gx g.1 (fa (j:Int)) Ta=at' g j:=rfl;have top:∀m':M,Uh.m ((at' g j).2.2.2.2.2.2.1,(at' g j).1,decide ((at' g j).1=11),at' g j,g.1,g.2.1,g.2.2.1,g.2.2.2.1,g.2.2.2.2.1,g.2.2.2.2.2.1,g.2.2.2.2.2.2.1,g.2.2.2.2.2.2.2,sc,Cm z fu,(j:Int),0,si,ki,ti,re,rg,ar,ma)=some (o8 m')->
   wg (g.1,g.2.1,g.2.2.1,g.2.2.2.1,g.2.2.2.2.1,g.2.2.2.2.2.1,g.2.2.2.2.2.2.1,g.2.2.2.2.2.2.2,sc,Cm z fu,(j:Int),0,si,ki,ti,re,rg,ar,ma)=some (zL m'):=fun m' h=>by
  simp only[wg,xw,fg It,Oa,Uk];rw[h];unfold o8 zL;split<;>rfl
 refine top _ ?_;clear top;obtain⟨raa,Dv⟩:=hG.op;have aM:=hG.idx;have HV:=hG.oE;clear hG;have two:(at' g j).1=4\/(at' g j).1=5\/(at' g j).1=6\/(at' g j).1=7\/(at' g j).1=8\/(at' g j).1=9\/(at' g j).1=10\/(at' g j).1=15->V.ja (at' g j).2.2.1 rg.length=true/\V.ja (at' g j).2.2.2.1 rg.length=true:=fun h=>by
  rcases h with h|h|h|h|h|h|h|h<;>exact⟨use _ (by simp[se,h]),use _ (by simp[se,h])⟩
 have ab:(at' g j).1<=10->(at' g j).1≠1->V.ja (at' g j).2.2.1 rg.length=true/\V.ja (at' g j).2.2.2.1 rg.length=true:=fun h1 h2=>by
  by_cases h:(at' g j).1=2\/(at' g j).1=3
  ·exact⟨use _ (by rcases h with h|h<;>simp[se,h]),un h⟩
  ·exact two (by omega)
 generalize at' g j=x at *
 by_cases R2:x.1<=10
 ·have e31:=J6 (x:=x) (g1:=g.1) (g2:=g.2.1) (g3:=g.2.2.1) (g4:=g.2.2.2.1) (g5:=g.2.2.2.2.1) (g6:=g.2.2.2.2.2.1) (g7:=g.2.2.2.2.2.2.1) (g8:=g.2.2.2.2.2.2.2) (sc:=sc) (fu:=Cm z fu) (nx:=(j:Int)) (en:=0) (si:=si) (ki:=ki) (ti:=ti) (re:=re) (rg:=rg) (ar:=ar) (ma:=ma) raa R2 (fun h=>(ab R2 h).1) (fun h=>(ab R2 h).2);have hd:=dst (by omega);have k:∀b:Bool,b=false->Qe.m (x.2.2.2.2.2.2.1,x.1,b,x,g.1,g.2.1,g.2.2.1,g.2.2.2.1,g.2.2.2.2.1,g.2.2.2.2.2.1,g.2.2.2.2.2.2.1,g.2.2.2.2.2.2.2,sc,Cm z fu,(j:Int),0,si,ki,ti,re,rg,ar,ma)=some (cond (!(decide ((rk x (gx rg x.2.2.1.toNat 0) (gx rg x.2.2.2.1.toNat 0)).2=0))) (.inl (Cm z fu,1,x.2.2.2.2.2.1,(rk x (gx rg x.2.2.1.toNat 0) (gx rg x.2.2.2.1.toNat 0)).2)) (.inr (Cm z fu,0,rg.set x.2.1.toNat (rk x (gx rg x.2.2.1.toNat 0) (gx rg x.2.2.2.1.toNat 0)).1))):=fun b hb=>by
   subst hb;simp only[PD.m,Qe,cond_false,decide_eq_false (show ¬x.1=21 by omega)];rw[e31,ga];simp only[hd,Oa];cases(!(decide ((rk x (gx rg x.2.2.1.toNat 0) (gx rg x.2.2.2.1.toNat 0)).2=0)))<;>rfl
  rw[QU raa R2];simp only[M.rd];generalize rk x (gx rg x.2.2.1.toNat 0) (gx rg x.2.2.2.1.toNat 0)=r at k ⊢;by_cases hz:r.2=0
  ·rw[if_pos hz];refine low (b:=false) (by omega) (by omega) (by omega) (by omega) (by omega) (by omega) (by omega) (by omega) (by omega) (decide_eq_false (by omega)) ((k false rfl).trans ?_) rfl rfl rfl rfl rfl;rw[decide_eq_true hz];rfl
  ·rw[if_neg hz];refine low (b:=false) (by omega) (by omega) (by omega) (by omega) (by omega) (by omega) (by omega) (by omega) (by omega) (decide_eq_false (by omega)) ((k false rfl).trans ?_) rfl rfl rfl rfl rfl;rw[decide_eq_false hz];rfl
 ·obtain h|h|h|h|h|h|h|h|h|h|h:x.1=11\/x.1=12\/x.1=13\/x.1=14\/x.1=15\/x.1=16\/x.1=17\/x.1=18\/x.1=19\/x.1=20\/x.1=21:=by omega
  all_goals simp only[h,Qi,decide_true,decide_false,Sm,if_true,if_false,M.to]
  ·obtain⟨q1,q2,q3,q4⟩:=arI (.inl h);have hb:=use x.2.2.2.1 (by simp[se,h]);simp only[PD.m,Uh,Bl,cond_true,hb,q2,Oa,nt,q3,M.rd];generalize gx rg x.2.2.2.1.toNat 0=b;by_cases k1:b<0
   ·rw[if_pos (.inl k1),decide_eq_true k1];rfl
   ·rw[decide_eq_false k1,cond_false,ga];by_cases k2:(gx g.2.2.2.2.2.2.1 x.2.2.1.toNat fb).2.2.1<=b
    ·rw[if_pos (.inr k2),decide_eq_true k2];rfl
    ·rw[if_neg (fun h=>h.elim k1 k2),decide_eq_false k2,cond_false,wj (by omega) (by omega),Oa,dst (by omega),Oa];rfl
  ·obtain⟨q1,q2⟩:=aM.k12 h;have hA:V.ja x.2.2.1 (da g.2.2.2.2.1)=true:=wj q1 q2;refine p8 (b:=true) rfl ?_;simp only[PD.m,mg,Al,cond_true,nt,hA,Oa];by_cases k:re=sc.length
   ·have d:(sc.length:Int)<=re:=by omega
    rw[if_pos k];simp only[d,decide_true,cond_true];rfl
   ·have w:Ea (re+1)=re+1:=Qb (by omega) (by omega);have d:¬(sc.length:Int)<=re:=by omega
    rw[if_neg k];simp only[d,decide_false,cond_false];rw[wj b8.1 (by omega),Oa,w];have e1:gx (jU g) x.2.2.1.toNat fb=gx g.2.2.2.2.1 x.2.2.1.toNat fb:=rfl;rw[e1];by_cases k1:gx sc re.toNat 0<(gx g.2.2.2.2.1 x.2.2.1.toNat fb).2.2.1
    ·rw[if_pos (.inl k1),decide_eq_true k1];rfl
    ·rw[decide_eq_false k1,cond_false,ga];by_cases k2:(gx g.2.2.2.2.1 x.2.2.1.toNat fb).2.2.2<gx sc re.toNat 0
     ·rw[if_pos (.inr k2),decide_eq_true k2];rfl
     ·rw[if_neg (fun h=>h.elim k1 k2),decide_eq_false k2,cond_false,dst (by omega),Oa];rfl
  ·obtain⟨q1,q2⟩:=aM.k13 h;obtain⟨k,hk⟩:=Pf q1;have gD:=(hF.I.s k (by omega)).2;have hd:V.ja x.2.1 rg.length=true:=wj q1 (by have:=hR.2;omega);have ha:=use x.2.2.1 (by simp[se,h]);have hS:V.ja x.2.1 (da g.2.2.2.2.2.1)=true:=wj q1 q2;have e1:gx (Nf g) x.2.1.toNat Bc=gx g.2.2.2.2.2.1 x.2.1.toNat Bc:=rfl;have raf:1<=(gx (Nf g) x.2.1.toNat Bc).2.1/\(gx (Nf g) x.2.1.toNat Bc).2.1<=3:=by rw[hk];exact gD
   have c:∀nn,lg.m (nn,13,true,x,g.1,g.2.1,g.2.2.1,g.2.2.2.1,g.2.2.2.2.1,g.2.2.2.2.2.1,g.2.2.2.2.2.2.1,g.2.2.2.2.2.2.2,sc,Cm z fu,(j:Int),0,si,ki,ti,re,rg,ar,ma)=some (cond (!(Qp (gx rg x.2.2.1.toNat 0) (gx (Nf g) x.2.1.toNat Bc).2.1)) (.inl (Cm z fu,1,x.2.2.2.2.2.1,1)) (.inr (nn,Cm z fu,0,ti,rg.set x.2.1.toNat (gx rg x.2.2.1.toNat 0),ar,ma))):=fun nn=>by
    simp only[PD.m,lg,cond_true,hS,ha,hd,Oa];rw[<- e1,iQ _ _ raf.1 raf.2,ga];cases(Qp (gx rg x.2.2.1.toNat 0) (gx (Nf g) x.2.1.toNat Bc).2.1)<;>rfl
   simp only[M.rd];refine p8 (b:=false) rfl ?_;by_cases k:Qp (gx rg x.2.2.1.toNat 0) (gx (Nf g) x.2.1.toNat Bc).2.1=true
   ·rw[if_pos k];exact jR (b:=true) rfl ((c _).trans (by rw[k];rfl)) rfl
   ·rw[if_neg k];exact jR (b:=true) rfl ((c _).trans (by rw[Bool.eq_false_iff.2 k];rfl)) rfl
  ·obtain⟨q1,q2,q3,q4⟩:=arI (.inr h);have hb:=use x.2.2.2.1 (by simp[se,h]);have hd:=use x.2.1 (by simp[se,h]);have c:∀nn,kg.m (nn,14,true,x,g.1,g.2.1,g.2.2.1,g.2.2.2.1,g.2.2.2.2.1,g.2.2.2.2.2.1,g.2.2.2.2.2.2.1,g.2.2.2.2.2.2.2,sc,Cm z fu,(j:Int),0,si,ki,ti,re,rg,ar,ma)=some (if gx rg x.2.2.2.1.toNat 0<0\/(gx g.2.2.2.2.2.2.1 x.2.2.1.toNat fb).2.2.1<=gx rg x.2.2.2.1.toNat 0 then .inl (Cm z fu,1,x.2.2.2.2.2.1,4)else if Qp (gx rg x.2.1.toNat 0) (gx g.2.2.2.2.2.2.1 x.2.2.1.toNat fb).2.1=true then .inr (nn,Cm z fu,0,ti,rg,ar.set x.2.2.1.toNat ((gx ar x.2.2.1.toNat []).set (gx rg x.2.2.2.1.toNat 0).toNat (gx rg x.2.1.toNat 0)),ma)else .inl (Cm z fu,1,x.2.2.2.2.2.1,1)):=fun nn=>by
    simp only[PD.m,kg,xl,cond_true,hb,hd,q1,q2,Oa,nt,q3];generalize gx rg x.2.2.2.1.toNat 0=b;by_cases k1:b<0
    ·rw[if_pos (.inl k1),decide_eq_true k1];rfl
    ·rw[decide_eq_false k1,cond_false,ga];by_cases k2:(gx g.2.2.2.2.2.2.1 x.2.2.1.toNat fb).2.2.1<=b
     ·rw[if_pos (.inr k2),decide_eq_true k2];rfl
     ·rw[if_neg (fun h=>h.elim k1 k2),decide_eq_false k2,cond_false,iQ _ _ q4.1 q4.2,ga,wj (by omega) (by omega),Oa];cases Qp (gx rg x.2.1.toNat 0) (gx g.2.2.2.2.2.2.1 x.2.2.1.toNat fb).2.1<;>rfl
   simp only[M.rd];have e1:gx (de g) x.2.2.1.toNat fb=gx g.2.2.2.2.2.2.1 x.2.2.1.toNat fb:=rfl;rw[e1];refine p8 (b:=false) rfl ?_;by_cases k:gx rg x.2.2.2.1.toNat 0<0\/(gx g.2.2.2.2.2.2.1 x.2.2.1.toNat fb).2.2.1<=gx rg x.2.2.2.1.toNat 0
   ·rw[if_pos k];exact jR (b:=false) rfl (gV (b:=true) rfl ((c _).trans (by rw[if_pos k];rfl))) rfl
   ·rw[if_neg k];by_cases k2:Qp (gx rg x.2.1.toNat 0) (gx g.2.2.2.2.2.2.1 x.2.2.1.toNat fb).2.1=true
    ·rw[if_pos k2];exact jR (b:=false) rfl (gV (b:=true) rfl ((c _).trans (by rw[if_neg k,if_pos k2];rfl))) rfl
    ·rw[if_neg k2];exact jR (b:=false) rfl (gV (b:=true) rfl ((c _).trans (by rw[if_neg k,if_neg k2];rfl))) rfl
  ·obtain⟨t1,t2⟩:=HV h;obtain⟨ha,hb⟩:=two (by simp[h]);have c:kf.m (x.2.2.2.2.2.2.1,15,true,x,g.1,g.2.1,g.2.2.1,g.2.2.2.1,g.2.2.2.2.1,g.2.2.2.2.2.1,g.2.2.2.2.2.2.1,g.2.2.2.2.2.2.2,sc,Cm z fu,(j:Int),0,si,ki,ti,re,rg,ar,ma)=some (.inl (cond (oE x.2.2.2.2.1 (gx rg x.2.2.1.toNat 0) (gx rg x.2.2.2.1.toNat 0)) x.2.2.2.2.2.2.1 x.2.2.2.2.2.2.2,Cm z fu,0,ti,rg,ma)):=by
    simp only[PD.m,kf,El,cond_true];rw[C_ ha hb t1 t2,ga];cases oE x.2.2.2.2.1 (gx rg x.2.2.1.toNat 0) (gx rg x.2.2.2.1.toNat 0)<;>rfl
   simp only[M.rd];refine p8 (b:=false) rfl ?_;by_cases k:oE x.2.2.2.2.1 (gx rg x.2.2.1.toNat 0) (gx rg x.2.2.2.1.toNat 0)=true
   ·rw[if_pos k];exact jR (b:=false) rfl (gV (b:=false) rfl (M7 (b:=true) rfl (c.trans (by rw[k];rfl)) rfl)) rfl
   ·rw[if_neg k];exact jR (b:=false) rfl (gV (b:=false) rfl (M7 (b:=true) rfl (c.trans (by rw[Bool.eq_false_iff.2 k];rfl)) rfl)) rfl
  ·exact p8 (b:=false) rfl (jR (b:=false) rfl (gV (b:=false) rfl (M7 (b:=false) rfl rfl rfl) ) rfl)
  ·have c:fe.m (x.2.2.2.2.2.2.1,17,true,x,g.1,g.2.1,g.2.2.1,g.2.2.2.1,g.2.2.2.2.1,g.2.2.2.2.2.1,g.2.2.2.2.2.2.1,g.2.2.2.2.2.2.2,sc,Cm z fu,(j:Int),0,si,ki,ti,re,rg,ar,ma)=some (if ¬g.2.2.2.1=0/\ti=g.2.2.2.1 then .inl (Cm z fu,3,si,ki)else if fu=0 then .inl (Cm z fu,4,si,ki)else .inr (if ma.length<64 then .inl (Cm z (fu-1),0,ma++[rg.take (Nf g).length])else .inr (Cm z (fu-1),0,ti,rg))):=by
    simp only[PD.m,fe,vl,cond_true];have e:∀(f:Bool->Option (YF ⊕ ((Int×Int×List (List Int)) ⊕ (Int×Int×Int×List Int)))),(cond (!(decide (g.2.2.2.1=(0:Int)))) (some (decide (ti=g.2.2.2.1))) (some false)).bind f=f (decide (¬g.2.2.2.1=0/\ti=g.2.2.2.1)):=fun f=>by
     by_cases z:g.2.2.2.1=0
     ·rw[decide_eq_true z,decide_eq_false (show ¬(¬g.2.2.2.1=0/\ti=g.2.2.2.1)from fun h=>h.1 z)];rfl
     ·rw[decide_eq_false z];show f _=f _;congr 1;exact decide_eq_decide.2 ⟨fun h=>⟨z,h⟩,fun h=>h.2⟩
    refine(e _).trans ?_;by_cases k:¬g.2.2.2.1=0/\ti=g.2.2.2.1
    ·rw[decide_eq_true k,if_pos k];rfl
    ·rw[decide_eq_false k,if_neg k,cond_false,RU hz Ll.1 Ll.2,ga];by_cases k2:fu=0
     ·rw[if_pos k2,if_pos k2];rfl
     ·rw[if_neg k2,if_neg k2];simp only[Zf,cond_false];by_cases k3:ma.length<64
      ·have k3':nt ma.length<64:=by simp only[nt];omega
       rw[decide_eq_true k3',if_pos k3];simp only[Dl,cond_true];rw[G_ hR.2 (by omega),ga,Ee (by simp only[Va,decide_eq_true_eq,Tj];omega)];rfl
      ·have k3':¬nt ma.length<64:=by simp only[nt];omega
       rw[decide_eq_false k3',if_neg k3];rfl
   refine p8 (b:=false) rfl ?_;have fin:∀m':M,fe.m (x.2.2.2.2.2.2.1,17,true,x,g.1,g.2.1,g.2.2.1,g.2.2.2.1,g.2.2.2.2.1,g.2.2.2.2.2.1,g.2.2.2.2.2.2.1,g.2.2.2.2.2.2.2,sc,Cm z fu,(j:Int),0,si,ki,ti,re,rg,ar,ma)=some (R_ true m')->m'.at_=x.2.2.2.2.2.2.1->m'.ti=ti->m'.rg=rg->m'.ar=ar->m'.re=re->mg.m (x.2.2.2.2.2.2.1,17,false,x,g.1,g.2.1,g.2.2.1,g.2.2.2.1,g.2.2.2.2.1,g.2.2.2.2.2.1,g.2.2.2.2.2.2.1,g.2.2.2.2.2.2.2,sc,Cm z fu,(j:Int),0,si,ki,ti,re,rg,ar,ma)=some (o8 m'):=fun m' h e1 e2 e3 e4 e5=>
    jR (b:=false) rfl (gV (b:=false) rfl (M7 (b:=false) rfl (Xai h e1 e2 e3) e4)) e5
   by_cases k:¬g.2.2.2.1=0/\ti=g.2.2.2.1
   ·rw[if_pos k];exact fin _ (c.trans (by rw[if_pos k];rfl)) rfl rfl rfl rfl rfl
   ·rw[if_neg k];by_cases k2:fu=0
    ·rw[if_pos k2];exact fin _ (c.trans (by rw[if_neg k,if_pos k2];rfl)) rfl rfl rfl rfl rfl
    ·rw[if_neg k2];by_cases k3:ma.length<64
     ·rw[if_pos k3];exact fin _ (c.trans (by rw[if_neg k,if_neg k2,if_pos k3];rfl)) rfl rfl rfl rfl rfl
     ·rw[if_neg k3];have c':fe.m (x.2.2.2.2.2.2.1,17,true,x,g.1,g.2.1,g.2.2.1,g.2.2.2.1,g.2.2.2.2.1,g.2.2.2.2.2.1,g.2.2.2.2.2.2.1,g.2.2.2.2.2.2.2,sc,Cm z fu,(j:Int),0,si,ki,ti,re,rg,ar,ma)=some (.inr (.inr (Cm z (fu-1),0,ti,rg))):=c.trans (by rw[if_neg k,if_neg k2,if_neg k3]);exact jR (b:=false) rfl (gV (b:=false) rfl (M7 (b:=false) rfl (by
       change (fe.m (x.2.2.2.2.2.2.1,17,true,x,g.1,g.2.1,g.2.2.1,g.2.2.2.1,g.2.2.2.2.1,g.2.2.2.2.2.1,g.2.2.2.2.2.2.1,g.2.2.2.2.2.2.2,sc,Cm z fu,(j:Int),0,si,ki,ti,re,rg,ar,ma)).bind _=_;rw[c'];rfl) rfl)) rfl
  ·exact p8 (b:=false) rfl (jR (b:=false) rfl (gV (b:=false) rfl (M7 (b:=false) rfl (p34 (b:=false) (by decide) (by decide) rfl (p39 (b:=true) rfl rfl) rfl rfl) rfl)) rfl)
  ·exact p8 (b:=false) rfl (jR (b:=false) rfl (gV (b:=false) rfl (M7 (b:=false) rfl rfl rfl) ) rfl)
  ·have c:Qe.m (x.2.2.2.2.2.2.1,20,true,x,g.1,g.2.1,g.2.2.1,g.2.2.2.1,g.2.2.2.2.1,g.2.2.2.2.2.1,g.2.2.2.2.2.2.1,g.2.2.2.2.2.2.2,sc,Cm z fu,(j:Int),0,si,ki,ti,re,rg,ar,ma)=some (if fu=0 then .inl (Cm z fu,4,si,ki)else .inr (Cm z (fu-1),0,rg)):=by
    simp only[PD.m,Qe,cond_true];rw[RU hz Ll.1 Ll.2,ga];by_cases k:fu=0
    ·rw[if_pos k,if_pos k];rfl
    ·rw[if_neg k,if_neg k];rfl
   have fin:∀m':M,Qe.m (x.2.2.2.2.2.2.1,20,true,x,g.1,g.2.1,g.2.2.1,g.2.2.2.1,g.2.2.2.2.1,g.2.2.2.2.2.1,g.2.2.2.2.2.2.1,g.2.2.2.2.2.2.2,sc,Cm z fu,(j:Int),0,si,ki,ti,re,rg,ar,ma)=some (o47 m')->m'.at_=x.2.2.2.2.2.2.1->m'.ti=ti->m'.re=re->m'.ar=ar->m'.ma=ma->_:=fun m' h' e1 e2 e3 e4 e5=>
    low (x:=x) (m':=m') (b:=true) (by omega) (by omega) (by omega) (by omega) (by omega) (by omega) (by omega) (by omega) (by omega) (decide_eq_true h) (by rw[h];exact h') e1 e2 e3 e4 e5
   simp only[h,Qi,decide_false]at fin;unfold M.NN;by_cases k:fu=0
   ·rw[if_pos k];exact fin _ (c.trans (by rw[if_pos k];rfl)) rfl rfl rfl rfl rfl
   ·rw[if_neg k];exact fin _ (c.trans (by rw[if_neg k];rfl)) rfl rfl rfl rfl rfl
  ·have fin:=low (x:=x) (m':=up z ((⟨fu,Wz x,0,si,ki,ti,re,rg,ar,ma⟩:M).fail x.2.2.2.2.2.1 5)) (n:=x.2.2.2.2.2.2.1) (g1:=g.1) (g2:=g.2.1) (g3:=g.2.2.1) (g4:=g.2.2.2.1) (g5:=g.2.2.2.2.1) (g6:=g.2.2.2.2.2.1) (g7:=g.2.2.2.2.2.2.1) (g8:=g.2.2.2.2.2.2.2) (sc:=sc) (fu:=Cm z fu) (a:=(j:Int)) (si:=si) (ki:=ki) (ti:=ti) (re:=re) (rg:=rg) (ar:=ar) (ma:=ma) (b:=false) (by omega) (by omega) (by omega) (by omega) (by omega) (by omega) (by omega) (by omega) (by omega) (decide_eq_false (by omega)) (by rw[h];rfl) rfl rfl rfl rfl rfl;simp only[h,Qi,decide_false]at fin;exact fin
end Go.U
end
section
set_option maxRecDepth 20000
namespace Go.U
open Go
structure HN(m m':M):Prop where
 e:m'.en≠0->m'.ti=m.ti/\m'.rg=m.rg/\m'.ar=m.ar/\m'.ma=m.ma
 n:m'.en=0->m'.si=m.si/\m'.ki=m.ki
theorem Gk{m m':M}(h:m'.en=0)(h1:m'.si=m.si)(h2:m'.ki=m.ki):HN m m':=⟨fun h'=>absurd h h',fun _=>⟨h1,h2⟩⟩
theorem Yt{m m':M}(k:Int)(h:m'.en=k)(hk:k≠0)(h1:m'.ti=m.ti)(h2:m'.rg=m.rg)(h3:m'.ar=m.ar)(h4:m'.ma=m.ma):HN m m':=⟨fun _=>⟨h1,h2,h3,h4⟩,fun h'=>absurd (h.symm.trans h') hk⟩
theorem Ik{x:Wa}{m:M}(h:m.en=0)(v:Int)(c:Bool):HN m (m.TK x v c):=by
 unfold M.TK;cases(c&& !(Qp v 3))
 ·exact Gk h rfl rfl
 ·exact Yt 1 rfl (by decide) rfl rfl rfl rfl
theorem mL{g:Ga}{sc:List Int}{x:Wa}{m:M}(h:m.en=0):HN m (Sm g sc x m):=by
 unfold Sm
 dsimp only
 have w:∀i v,HN m (m.wr i v):=fun i v=>Gk h rfl rfl
 have f:∀k,HN m (m.fail x.2.2.2.2.2.1 k):=fun k=>Yt 1 rfl (by decide) rfl rfl rfl rfl
 refine Pb (fun _=>w _ _) fun _=>Pb (fun _=>Ik h _ _) fun _=>Pb (fun _=>Ik h _ _) fun _=>Pb (fun _=>Ik h _ _) fun _=>Pb (fun _=>Ik h _ _) fun _=>Pb (fun _=>Ik h _ _) fun _=> ?_
 refine Pb (fun _=>Pb (fun _=>f _) fun _=>Pb (fun _=>f _) fun _=>w _ _) fun _=> ?_
 refine Pb (fun _=>Pb (fun _=>f _) fun _=>w _ _) fun _=>Pb (fun _=>Ik h _ _) fun _=>Pb (fun _=>Ik h _ _) fun _=> ?_
 refine Pb (fun _=>Pb (fun _=>f _) fun _=>w _ _) fun _=> ?_
 refine Pb (fun _=>Pb (fun _=>Yt 2 rfl (by decide) rfl rfl rfl rfl) fun _=>Pb (fun _=>Yt 5 rfl (by decide) rfl rfl rfl rfl) fun _=>Gk h rfl rfl) fun _=> ?_
 refine Pb (fun _=>Pb (fun _=>w _ _) fun _=>f _) fun _=> ?_
 refine Pb (fun _=>Pb (fun _=>f _) fun _=>Pb (fun _=>Gk h rfl rfl) fun _=>f _) fun _=> ?_
 refine Pb (fun _=>Pb (fun _=>Gk h rfl rfl) fun _=>Gk h rfl rfl) fun _=> ?_
 refine Pb (fun _=>Pb (fun _=>Yt 3 rfl (by decide) rfl rfl rfl rfl) fun _=>Pb (fun _=>Yt 4 rfl (by decide) rfl rfl rfl rfl) fun _=>Pb (fun _=>Gk h rfl rfl) fun _=>Gk h rfl rfl) fun _=> ?_
 refine Pb (fun _=>Gk h rfl rfl) fun _=> ?_
 refine Pb (fun _=> ?_) fun _=>Pb (fun _=>f _) fun _=>Gk h rfl rfl
 unfold M.NN;exact Pb (fun _=>Yt 4 rfl (by decide) rfl rfl rfl rfl) fun _=>Gk h rfl rfl
theorem UQ{g:Ga}{sc:List Int}{m:M}(h:m.en=0):HN m (step g sc m):=by
 have:=mL (g:=g) (sc:=sc) (x:=at' g m.at_.toNat) (m:=m.to (Wz (at' g m.at_.toNat))) h;exact⟨this.e,this.n⟩
section
variable {g:Ga}{D:List Int}{sc:List Int}{m:M}
theorem BW(hF:Mf g D)(q):Ma (vq.m (g,q)) (0,Ca g.2.2.1.toNat 0)=some (cq g):=by
 obtain⟨R,hR,hS,mI⟩:=hF.FI;have h4:=hF.S;unfold cq;rw[hR,La];have:=Xc (step:=vq.m (g,q)) (n:=(Nf g).length) (fun i=>((i:Int),((Nf g).take i).map (fun s=>s.2.2)++Ca (R-i) 0)) ((Nf g).map (fun s=>s.2.2)++Ca (R-(Nf g).length) 0) (by omega) (fun t=>(Nf g).length-t.1.toNat) (fun i _=>by simp) (fun i hi=>by
  have h':(i:Int)<((Nf g).length:Int):=by omega
  have w:Ea ((i:Int)+1)=((i+1:Nat):Int):=by rw[Qb (by omega) (by omega)];rfl
  have hl:(((Nf g).take i).map (fun s=>s.2.2)).length=i:=by simp;omega
  have Ac:i<(((Nf g).take i).map (fun s=>s.2.2)++Ca (R-i) (0:Int)).length:=by rw[qd,hl,Of];omega
  have h'':(i:Int)<(da g.2.2.2.2.2.1:Int):=h';have PK:i<da g.2.2.2.2.2.1:=hi;simp only[LD.m,vq,nt,h'',decide_true,cond_true,fg PK,Oa,La,w,fg Ac];rw[sn hl (by omega),If Bc hi,List.map_append];rfl) (by
  have h'':¬(((Nf g).length:Nat):Int)<(da g.2.2.2.2.2.1:Int):=Xb _;simp only[LD.m,vq,nt,h'',decide_false,cond_false,Af])
 simpa using this
theorem AW(hF:Mf g D)(q):Ma (uq.m (g,q)) (0,[])=some (Ap g):=by
 have hA:=hF.A;have:=Xc (step:=uq.m (g,q)) (n:=(de g).length) (fun i=>((i:Int),((de g).take i).map fun a=>Ca a.2.2.1.toNat a.2.2.2)) (Ap g) (by omega) (fun t=>(de g).length-t.1.toNat) (fun i _=>by simp) (fun i hi=>by
  have h':(i:Int)<(da g.2.2.2.2.2.2.1:Int):=by have:i<da g.2.2.2.2.2.2.1:=hi;omega
  have PK:i<da g.2.2.2.2.2.2.1:=hi;have w:Ea ((i:Int)+1)=((i+1:Nat):Int):=by rw[Qb (by omega) (by omega)];rfl
  obtain⟨_,_,s1,s2⟩:=hF.I.a i hi;have hl:(((de g).take i).map fun a=>Ca a.2.2.1.toNat a.2.2.2).length<=16:=by simp;omega
  have e:=If fb hi;obtain⟨n,hn⟩:=Pf (show 0<=(gx (de g) i fb).2.2.1 by omega);have JR:(gx g.2.2.2.2.2.2.1 i fb).2.2.1=(n:Int):=hn;have SK:Ma (Ul.m ((i:Int),(g,q),((de g).take i).map fun a=>Ca a.2.2.1.toNat a.2.2.2)) (0,[])=some (Ca n (gx (de g) i fb).2.2.2):=by
   have:=Xc (step:=Ul.m ((i:Int),(g,q),((de g).take i).map fun a=>Ca a.2.2.1.toNat a.2.2.2)) (n:=n) (fun k=>((k:Int),Ca k (gx (de g) i fb).2.2.2)) (Ca n (gx (de g) i fb).2.2.2) (by omega) (fun t=>n-t.1.toNat) (fun k _=>by simp) (fun k hk=>by
    have h2:(k:Int)<(n:Int):=by omega
    have w2:Ea ((k:Int)+1)=((k+1:Nat):Int):=by rw[Qb (by omega) (by omega)];rfl
    simp only[LD.m,Ul,fg PK,Oa,La,JR,h2,decide_true,cond_true,w2];refine(Ee (by simp only[Va,decide_eq_true_eq,Tj,Of];omega)).trans ?_;rw[List.replicate_succ']) (by
    simp only[LD.m,Ul,fg PK,Oa,La,JR,Xb,decide_false,cond_false])
   exact this
  simp only[LD.m,uq,nt,h',decide_true,cond_true,La,w];rw[SK,ga];refine(Ee (by simp only[Va,decide_eq_true_eq,Tj];omega)).trans ?_;rw[e,List.map_append];show some (Sum.inl (_,_++[Ca n _]))=some (Sum.inl (_,_++[Ca (gx (de g) i fb).2.2.1.toNat _]));rw[hn,La]) (by
  have h'':¬(((de g).length:Nat):Int)<(da g.2.2.2.2.2.2.1:Int):=Xb _;simp only[LD.m,uq,nt,h'',decide_false,cond_false,Af];rfl)
 exact this
theorem mab(hF:Mf g D)(sc:List Int)(fu:Int):bF (g,sc,fu)=some (cq g,Ap g):=by
 obtain⟨R,hR,hS,mI⟩:=hF.FI;unfold bF HO;have b:(decide (0<=g.2.2.1)&&decide (g.2.2.1<=g.2.2.1)&&decide (8 * g.2.2.1<=70368744177664)&&decide (g.2.2.1<9223372036854775808))=true:=by
  rw[hR];simp;omega
 refine(Ee b).trans ?_;rw[BW hF,ga,AW hF,ga]
theorem gN(hF:Mf g D):bC g=some (af g):=DH hF
end
end Go.U
end
