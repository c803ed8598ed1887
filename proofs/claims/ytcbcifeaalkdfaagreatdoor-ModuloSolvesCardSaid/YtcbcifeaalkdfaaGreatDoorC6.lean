/- The functions of the program as Lean functions, and that the evaluator says so. -/
import Derived.Test.YtcbcifeaalkdfaaGreatDoorC5
set_option linter.unusedVariables false
set_option linter.unusedSimpArgs false
set_option linter.unusedSectionVars false
open Int renaming tmod→zb,toNat→ia,tdiv→jb
open List renaming length→fa,set→Wb
section
set_option maxRecDepth 100000
namespace Go.U
open Go Go.Proofs
noncomputable section
variable {C:V.Callee}
def R5:FS (Int×Int) (Int)where
 sk:=⟨Ag,[],0⟩
 a:=λu=>(u.1.1,u.1.2.1)
 o:=λZ a r K=>kv K .i [] 0 r ()
def UP{X:Type}(a:Int×Int)(K:Int->Option X):Option X:=
 cond (decide (a.1<a.2))
 (K a.1)
 (K a.2)
def qJ:=λa=>UP a some
def saa:Spec:=R5.sp qJ
noncomputable def faj:Env:=eE [] (Ra []) qN
theorem taa:OK (1) 152 (R5.sp qJ):=
 fO (env:=faj) (za cn) (fn:=Tryz.f152) (mc:=@UP) (by intros;simp only[qJ,UP,nn])
def H7:FS (Kd×Kd) (Kd)where
 sk:=⟨(cL [(.agg Ag),(.agg Ag)]),[],0⟩
 a:=λu=>((u.1.1.1,u.1.1.2.1),u.1.2.1.1,u.1.2.1.2.1)
 o:=λZ a r K=>kv K (.agg Ag) [] 0 (r.1,r.2,()) ()
def MQ{X:Type}(a:Kd×Kd)(K:Kd->Option X):Option X:=
 (uv a.1).bind λr1=>
 (uv a.2).bind λr2=>
 cond (decide (r1.2<r1.1))
 (K (1,0))
 (cond (decide (r2.2<r2.1))
 (K (1,0))
 ((rJ (r1.1,r2.1)).bind λr3=>
 (qJ (r1.2,r2.2)).bind λr4=>
 (Mn (r3,r4)).bind λr5=>
 K r5))
def TE:=λa=>MQ a some
def uab:Spec:=H7.sp TE
noncomputable def bak:Env:=eE [] (Ra [(150,hU),(104,xU),(106,gC),(151,uaa),(152,saa),(108,iK)]) qN
theorem vab:OK (4) 103 (H7.sp TE):=
 fO (env:=bak) (za (cc iU (cc yU (cc iC (cc vaa (cc taa (cc jK cn))))))) (fn:=Tryz.f103) (mc:=@MQ) (by intros;simp only[TE,MQ,nn]) (Ca:=[2,3,4])
def D7:FS (Kd×Int) (Bool)where
 sk:=⟨(cL [(.agg Ag),.i]),[],0⟩
 a:=λu=>((u.1.1.1,u.1.1.2.1),u.1.2.1)
 o:=λZ a r K=>kv K (.bool) [] 0 r ()
def lK{X:Type}(a:Kd×Int)(K:Bool->Option X):Option X:=
 (uv a.1).bind λr1=>
 cond (decide (r1.1<=r1.2))
 (cond (decide (r1.1=(-4611686018427387904:Int)))
 (cond (decide (r1.2=(4611686018427387904:Int)))
 (K true)
 (K (decide (a.2<=r1.2))))
 (cond (decide (r1.1<=a.2))
 (cond (decide (r1.2=(4611686018427387904:Int)))
 (K true)
 (K (decide (a.2<=r1.2))))
 (K false)))
 (K false)
def Xz:=λa=>lK a some
def sab:Spec:=D7.sp Xz
noncomputable def Xaj:Env:=eE [] (Ra [(150,hU)]) qN
theorem tab:OK (4) 107 (D7.sp Xz):=
 fO (env:=Xaj) (za (cc iU cn)) (fn:=Tryz.f107) (mc:=@lK) (by intros;simp only[Xz,lK,nn]) (Ca:=[2])
def Mad:FS (ga×Kd) (ga×Kd)where
 sk:=⟨(cL [(.agg La),(.agg Ag)]),[],0⟩
 a:=λu=>((q3 u.1.1),u.1.2.1.1,u.1.2.1.2.1)
 o:=λZ a r K=>kv K (.Re (cL [(.agg La),(.agg Ag)])) [] 0 ((r.1.1,r.1.2.1,r.1.2.2,()),(r.2.1,r.2.2,()),()) ()
def rT{X:Type}(a:ga×Kd)(K:(ga×Kd)->Option X):Option X:=
 (YA 3).bind λr1=>
 (TE (a.2,r1)).bind λr2=>
 cond a.1.1
 (K ((true,(0,0)),(1,0)))
 (cond (decide (r2.2<r2.1))
 (K ((true,(0,0)),(1,0)))
 (cond (decide (a.1.2.1=(0:Int)))
 ((Xz (r2,a.1.2.2)).bind λr3=>
 cond r3
 ((Mn (a.1.2.2,a.1.2.2)).bind λr4=>
 K (a.1,r4))
 (K ((true,(0,0)),(1,0))))
 (cond (decide (a.1.2.1=(0:Int)))
 (none)
 (cond (decide (a.1.2.1=(0:Int)))
 (none)
 (cond (decide (a.1.2.1=(0:Int)))
 (none)
 (cond (decide (a.1.2.1=(0:Int)))
 (none)
 (cond (decide ((Ka (r2.2-(zb (Ka ((zb (Ka (r2.2-a.1.2.2)) a.1.2.1)+a.1.2.1)) a.1.2.1)))<(Ka (r2.1+(zb (Ka ((zb (Ka (a.1.2.2-r2.1)) a.1.2.1)+a.1.2.1)) a.1.2.1)))))
 (K ((true,(0,0)),(1,0)))
 (cond (decide ((Ka (r2.1+(zb (Ka ((zb (Ka (a.1.2.2-r2.1)) a.1.2.1)+a.1.2.1)) a.1.2.1)))=(Ka (r2.2-(zb (Ka ((zb (Ka (r2.2-a.1.2.2)) a.1.2.1)+a.1.2.1)) a.1.2.1)))))
 ((Mn ((Ka (r2.1+(zb (Ka ((zb (Ka (a.1.2.2-r2.1)) a.1.2.1)+a.1.2.1)) a.1.2.1))),(Ka (r2.1+(zb (Ka ((zb (Ka (a.1.2.2-r2.1)) a.1.2.1)+a.1.2.1)) a.1.2.1))))).bind λr5=>
 K ((false,(0,(Ka (r2.1+(zb (Ka ((zb (Ka (a.1.2.2-r2.1)) a.1.2.1)+a.1.2.1)) a.1.2.1))))),r5))
 ((Mn ((Ka (r2.1+(zb (Ka ((zb (Ka (a.1.2.2-r2.1)) a.1.2.1)+a.1.2.1)) a.1.2.1))),(Ka (r2.2-(zb (Ka ((zb (Ka (r2.2-a.1.2.2)) a.1.2.1)+a.1.2.1)) a.1.2.1))))).bind λr6=>
 K (a.1,r6))))))))))
def KD:=λa=>rT a some
def Sah:Spec:=Mad.sp KD
noncomputable def Eao:Env:=eE [] (Ra [(54,I3),(103,uab),(105,zj),(106,gC),(104,xU),(107,sab),(108,iK)]) qN
theorem Tah:OK (5) 53 (Mad.sp KD):=
 fO (env:=Eao) (za (cc J3 (cc vab (cc Aj (cc iC (cc yU (cc tab (cc jK cn)))))))) (fn:=Tryz.f53) (mc:=@rT) (by intros;simp only[KD,rT,nn]) (Ca:=[2,3,4,5])
def Kad:FS ((List ga)×Int×ga) ((List ga))where
 sk:=⟨(cL [(.lit Ma),.i,(.agg La)]),[],0⟩
 a:=λu=>(u.1.1,u.1.2.1,u.1.2.2.1.1,(u.1.2.2.1.2.1,u.1.2.2.1.2.2.1))
 o:=λZ a r K=>kv K (.lit Ma) [] 0 r ()
def pT{X:Type}(a:(List ga)×Int×ga)(K:(List ga)->Option X):Option X:=
 ask (decide ((fa a.1) * 24<=70368744177664)&&decide ((fa a.1)<9223372036854775808)) (ask (V.ua a.2.1 (fa a.1)) (K (Wb a.1 (ia a.2.1) a.2.2)))
def vx:=λa=>pT a some
def E3:Spec:=Kad.sp vx
noncomputable def Cao:Env:=eE [] (Ra []) qN
theorem F3:OK (1) 55 (Kad.sp vx):=
 fO (env:=Cao) (za cn) (fn:=Tryz.f55) (mc:=@pT) (by intros;simp only[vx,pT,nn]) (Ca:=[5]) (sh:=(.lit Ma)) (fz:=true)
def w7:FS (Int) (Int)where
 sk:=⟨(.cons .i .nil),[],0⟩
 a:=λu=>u.1.1
 o:=λZ a r K=>kv K .i [] 0 r ()
def yQ{X:Type}(a:Int)(K:Int->Option X):Option X:=
 cond (decide ((Ka (a-(14:Int)))=(0:Int)))
 (K 15)
 (cond (decide ((Ka (a-(14:Int)))=(1:Int)))
 (K 14)
 (cond (decide ((Ka (a-(14:Int)))=(2:Int)))
 (K 19)
 (cond (decide ((Ka (a-(14:Int)))=(3:Int)))
 (K 18)
 (cond (decide ((Ka (a-(14:Int)))=(4:Int)))
 (K 17)
 (cond (decide ((Ka (a-(14:Int)))=(5:Int)))
 (K 16)
 (none))))))
def PE:=λa=>yQ a some
def pab:Spec:=w7.sp PE
noncomputable def Qaj:Env:=eE [] (Ra []) qN
theorem qab:OK (1) 112 (w7.sp PE):=
 fO (env:=Qaj) (za cn) (fn:=Tryz.f112) (mc:=@yQ) (by intros;simp only[PE,yQ,nn]) (Ca:=[3])
def Q5:FS (Int×Int×Int) (Bool)where
 sk:=⟨(.cons .i Ag),[],0⟩
 a:=λu=>(u.1.1,u.1.2.1,u.1.2.2.1)
 o:=λZ a r K=>kv K (.bool) [] 0 r ()
def pJ{X:Type}(a:Int×Int×Int)(K:Bool->Option X):Option X:=
 cond (decide (a.1=(14:Int)))
 (K (decide (a.2.1=a.2.2)))
 (cond (decide (a.1=(15:Int)))
 (K (!(decide (a.2.1=a.2.2))))
 (cond (decide (a.1=(16:Int)))
 (K (decide (a.2.1<a.2.2)))
 (cond (decide (a.1=(17:Int)))
 (K (decide (a.2.1<=a.2.2)))
 (cond (decide (a.1=(18:Int)))
 (K (decide (a.2.2<a.2.1)))
 (K (decide (a.2.2<=a.2.1)))))))
def Hz:=λa=>pJ a some
def paa:Spec:=Q5.sp Hz
noncomputable def eaj:Env:=eE [] (Ra []) qN
theorem qaa:OK (1) 153 (Q5.sp Hz):=
 fO (env:=eaj) (za cn) (fn:=Tryz.f153) (mc:=@pJ) (by intros;simp only[Hz,pJ,nn])
def Aad:FS (ga×Int) (Bool)where
 sk:=⟨(cL [(.agg La),.i]),[],0⟩
 a:=λu=>((q3 u.1.1),u.1.2.1)
 o:=λZ a r K=>kv K (.bool) [] 0 r ()
def aT{X:Type}(a:ga×Int)(K:Bool->Option X):Option X:=
 cond a.1.1
 (K false)
 (cond (decide (a.2<(-2147483648:Int)))
 (K false)
 (cond (decide ((2147483647:Int)<a.2))
 (K false)
 (cond (decide (a.1.2.1=(0:Int)))
 (K (decide (a.2=a.1.2.2)))
 (cond (decide (a.1.2.1=(0:Int)))
 (none)
 (K (decide ((zb (Ka (a.2-a.1.2.2)) a.1.2.1)=(0:Int))))))))
def wu:=λa=>aT a some
def E2:Spec:=Aad.sp wu
noncomputable def wao:Env:=eE [] (Ra []) qN
theorem J2:OK (1) 65 (Aad.sp wu):=
 fO (env:=wao) (za cn) (fn:=Tryz.f65) (mc:=@aT) (by intros;simp only[wu,aT,nn]) (Ca:=[2])
def N5:FS (Int×Int) (Int)where
 sk:=⟨Rk,[],0⟩
 a:=λu=>(u.1.1,u.1.2.1)
 o:=λZ a r K=>kv K (.int .u64) [] 0 r ()
abbrev Hx:LD (Int) (Int×Int×Int×Int) (Int)where
 sk:=⟨[(1,.v (.int .u64)),(5,.i),(6,.i),(7,.i),(8,.i)],[],[],0,0⟩
 p:=λu=>u.1.1
 t:=λu=>(r3 u.1.2 u.1.t4.1)
 n:=λp t=>((p,(r3 t (t.t3,()))),(),())
 st:=λY p t ki ke=>cond (!(decide (t.2.1=(0:Int))))
  (cond (decide (t.2.1=(0:Int)))
  (none)
  (ki (t.2.1,(Ka (t.1-(Ka ((Ka (jb t.1 t.2.1)) * t.2.1)))),t.2.2.2,(Ka (t.2.2.1-(Ka ((Ka (jb t.1 t.2.1)) * t.2.2.2)))))))
  (ke (t.2.2.1))
 o:=λZ p e K=>so K (.exit 0) ⟨[(1,.v (.int .u64)),(7,.i)],[],[],0,0⟩ ((p,e,()),(),())
 ve:=⟨[1,5,6,7,8],[],[],[]⟩
 pe:=[(.exit 0,⟨[1,7],[],[],[]⟩)]
def nJ{X:Type}(a:Int×Int)(K:Int->Option X):Option X:=
 (Ua (Hx.m a.2) ((Ka a.2),(Ka a.1),0,1)).bind λe1=>
 cond (decide (e1<(0:Int)))
 (K (Ia (Ka (e1+(Ka a.2)))))
 (K (Ia e1))
def Gz:=λa=>nJ a some
def kaa:Spec:=N5.sp Gz
noncomputable def O5:Env:=eE [] (Ra []) (qL 3 Hx.q qN)
theorem TP:LL C O5 [] Tryz.f155 71:=λhc=>
 lO hc Hx
theorem laa:OK (1) 155 (N5.sp Gz):=
 fO (env:=O5) (za cn) (fn:=Tryz.f155) (mc:=@nJ) (by intros;simp only[Gz,nJ,nn]) (hl:=λhc=>(Vi (Ta (TP hc) fc)))
def P5:FS (Int×Int×Int) (Int)where
 sk:=⟨(.cons (.int .u64) Rk),[],0⟩
 a:=λu=>(u.1.1,u.1.2.1,u.1.2.2.1)
 o:=λZ a r K=>kv K (.int .u64) [] 0 r ()
def oJ{X:Type}(a:Int×Int×Int)(K:Int->Option X):Option X:=
 cond (decide (a.2.2=(0:Int)))
 (none)
 (K (zb (Ia (a.1 * a.2.1)) a.2.2))
def EE:=λa=>oJ a some
def naa:Spec:=P5.sp EE
noncomputable def daj:Env:=eE [] (Ra []) qN
theorem oaa:OK (1) 154 (P5.sp EE):=
 fO (env:=daj) (za cn) (fn:=Tryz.f154) (mc:=@oJ) (by intros;simp only[EE,oJ,nn])
def s7:FS (ga×ga) (ga)where
 sk:=⟨(cL [(.agg La),(.agg La)]),[],0⟩
 a:=λu=>((q3 u.1.1),u.1.2.1.1,(u.1.2.1.2.1,u.1.2.1.2.2.1))
 o:=λZ a r K=>kv K (.agg La) [] 0 (r.1,r.2.1,r.2.2,()) ()
abbrev Lt:PD ((ga×ga)×Bool×Int×Int) (Bool)where
 sk:=⟨[(2,.loc 0 0),(3,.loc 1 0),(4,.loc 2 0)],[La,La,La],[],0,0⟩
 p:=λu=>(((q3 u.2.1.1),(q3 u.2.1.2.1)),u.2.1.2.2.1.1,u.2.1.2.2.1.2.1,u.2.1.2.2.1.2.2.1)
 st:=λY p ke=>cond p.1.1.1
  (ke (true))
  (ke (p.1.2.1))
 o:=λZ p e K=>so K (.normal) ⟨[(2,.loc 0 0),(3,.loc 1 0),(4,.loc 2 0),(15,.v .bool)],[La,La,La],[],0,0⟩ ((e,()),((p.1.1.1,p.1.1.2.1,p.1.1.2.2,()),(p.1.2.1,p.1.2.2.1,p.1.t3,()),(p.2.1,p.2.2.1,p.t3,()),()),())
 ve:=⟨[2,3,4],[],[],[]⟩
 pe:=[(.normal,⟨[2,3,4,15],[],[],[]⟩)]
abbrev fC:PD (Bool×(ga×ga)×Bool×Int×Int) (Bool×Int×Int×Bool×Int×Int)where
 sk:=⟨[(2,.loc 0 0),(3,.loc 1 0),(4,.loc 2 0),(21,.v .bool)],[La,La,La],[],0,0⟩
 p:=λu=>(u.1.1,((q3 u.2.1.1),(q3 u.2.1.2.1)),u.2.1.2.2.1.1,u.2.1.2.2.1.2.1,u.2.1.2.2.1.2.2.1)
 st:=λY p ke=>cond p.1
  (ke ((p.2.1.2.1,p.2.1.2.2.1,p.2.1.2.2.2,p.2.1.1.1,p.2.1.1.2.1,p.2.1.1.2.2)))
  (ke ((p.2.1.1.1,p.2.1.1.2.1,p.2.1.1.2.2,p.2.1.2.1,p.2.1.2.2.1,p.2.1.2.2.2)))
 o:=λZ p e K=>so K (.normal) ⟨[(2,.loc 0 0),(3,.loc 1 0),(4,.loc 2 0)],[La,La,La],[],0,0⟩ ((),((r3 e ()),(e.t3.1,e.t4.1,e.t5,()),(p.2.2.1,p.t3.1,p.t4,()),()),())
 ve:=⟨[2,3,4,21],[],[],[]⟩
 pe:=[(.normal,⟨[2,3,4],[],[],[]⟩)]
abbrev Oo:PD (Int×Int×Int×Int×Bool×(Bool×(Int×(Int×ga)))×Bool×Int×Int) (Int)where
 sk:=⟨[(2,.loc 0 0),(3,.loc 1 0),(4,.loc 2 0),(5,.v (.int .u64)),(6,.v (.int .u64)),(7,.v (.int .u64)),(8,.i),(74,.v .bool)],[La,La,La],[],0,0⟩
 p:=λu=>(r5 u.1 ((u.2.1.1.1,(u.2.1.1.2.1,(u.2.1.1.2.2.1,(q3 u.2.1.2.1)))),u.2.1.2.2.1.1,u.2.1.2.2.1.2.1,u.2.1.2.2.1.2.2.1))
 st:=λY p ke=>cond p.2.2.2.2.1
  (ke ((Ka (p.2.2.2.1+(Ka p.2.1)))))
  (ke (p.2.2.2.1))
 o:=λZ p e K=>so K (.normal) ⟨[(2,.loc 0 0),(3,.loc 1 0),(4,.loc 2 0),(5,.v (.int .u64)),(6,.v (.int .u64)),(7,.v (.int .u64)),(8,.i)],[La,La,La],[],0,0⟩ ((r3 p (e,())),((r3 p.t5.1 ()),(p.t5.1.t3.1,p.t5.1.t4.1,p.t5.1.t5,()),(p.t6.1,p.t7.1,p.t8,()),()),())
 ve:=⟨[2,3,4,5,6,7,8,74],[],[],[]⟩
 pe:=[(.normal,⟨[2,3,4,5,6,7,8],[],[],[]⟩)]
abbrev No:PD (Int×Int×Int×Int×Int×Bool×(Bool×(Int×(Int×ga)))×Bool×Int×Int) (Int)where
 sk:=⟨[(2,.loc 0 0),(3,.loc 1 0),(4,.loc 2 0),(5,.v (.int .u64)),(6,.v (.int .u64)),(7,.v (.int .u64)),(8,.i),(9,.v (.int .u64)),(80,.v .bool)],[La,La,La],[],0,0⟩
 p:=λu=>(r6 u.1 ((u.2.1.1.1,(u.2.1.1.2.1,(u.2.1.1.2.2.1,(q3 u.2.1.2.1)))),u.2.1.2.2.1.1,u.2.1.2.2.1.2.1,u.2.1.2.2.1.2.2.1))
 st:=λY p ke=>cond p.2.2.2.2.2.1
  ((Gz (p.2.2.1,p.2.1)).bind λr1=>
  (EE ((Ia p.2.2.2.1),r1,p.2.1)).bind λr2=>
  ke (r2))
  (ke (p.2.2.2.2.1))
 o:=λZ p e K=>so K (.normal) ⟨[(2,.loc 0 0),(3,.loc 1 0),(4,.loc 2 0),(5,.v (.int .u64)),(9,.v (.int .u64))],[La,La,La],[],0,0⟩ ((p.1,e,()),((r3 p.t6.1 ()),(p.t6.1.t3.1,p.t6.1.t4.1,p.t6.1.t5,()),(p.t7.1,p.t8.1,p.t9,()),()),())
 ve:=⟨[2,3,4,5,6,7,8,9,80],[],[],[]⟩
 pe:=[(.normal,⟨[2,3,4,5,9],[],[],[]⟩)]
def Vz{X:Type}(a:ga×ga)(K:ga->Option X):Option X:=
 (Lt.m (a,false,0,0)).bind λe1=>
 cond e1
 (K (true,(0,0)))
 ((fC.m ((decide (a.1.2.1<a.2.2.1)),a,false,0,0)).bind λe2=>
 cond (decide (e2.2.2.2.2.1=(0:Int)))
 ((wu ((e2.1,(e2.2.1,e2.2.2.1)),e2.2.2.2.2.2)).bind λr3=>
 cond r3
 (K e2.2.2.2)
 (K (true,(0,0))))
 ((Kc e2.2.1).bind λr4=>
 (Kc e2.2.2.2.2.1).bind λr5=>
 (wg (r4,r5)).bind λr6=>
 (Kc (Ka (e2.2.2.1-e2.2.2.2.2.2))).bind λr7=>
 cond (decide (r6=(0:Int)))
 (none)
 (cond (!(decide ((zb r7 r6)=(0:Int))))
 (K (true,(0,0)))
 ((Kc e2.2.2.2.2.1).bind λr8=>
 cond (decide (r6=(0:Int)))
 (none)
 ((Kc e2.2.1).bind λr9=>
 cond (decide (r6=(0:Int)))
 (none)
 (cond (decide ((Ia (jb r8 r6))=(0:Int)))
 (none)
 (cond (decide ((Ka r6)=(0:Int)))
 (none)
 (cond (decide ((Ka (Ia (jb r8 r6)))=(0:Int)))
 (none)
 ((Oo.m (r6,(Ia (jb r8 r6)),(zb (Ia (jb r9 r6)) (Ia (jb r8 r6))),(zb (Ka (jb (Ka (e2.2.2.2.2.2-e2.2.2.1)) (Ka r6))) (Ka (Ia (jb r8 r6)))),(decide ((zb (Ka (jb (Ka (e2.2.2.2.2.2-e2.2.2.1)) (Ka r6))) (Ka (Ia (jb r8 r6))))<(0:Int))),e2,false,0,0)).bind λCu=>
 (No.m (r6,(Ia (jb r8 r6)),(zb (Ia (jb r9 r6)) (Ia (jb r8 r6))),Cu,0,(decide ((1:Int)<(Ia (jb r8 r6)))),e2,false,0,0)).bind λCU=>
 (Kc e2.2.1).bind λmI=>
 cond (decide (r6=(0:Int)))
 (none)
 ((Kc e2.2.2.2.2.1).bind λRX=>
 (Kc e2.2.2.1).bind λr14=>
 (Kc e2.2.1).bind λr15=>
 (Ln ((Ia ((Ia (jb mI r6)) * RX)),(Ia (r14+(Ia (r15 * CU)))),false)).bind λr16=>
 K r16))))))))))
def yj:=λa=>Vz a some
def uU:Spec:=s7.sp yj
noncomputable def OE:Env:=eE [1000004,1000016,1000019,2000001] (Ra [(105,zj),(65,E2),(111,gk),(110,Mt),(155,kaa),(154,naa),(123,XB)]) (qL 2000001 Lt.q (qL 1000004 fC.q (qL 1000016 Oo.q (qL 1000019 No.q qN))))
theorem wQ:LP C OE [2,3,4] Tryz.f114 9:=λhc=>
 pO 2000001 hc Lt
theorem xQ:LP C OE [2,3,4] Tryz.f114 27:=λhc=>
 pO 1000004 hc fC
theorem ZM:LP C OE [2,3,4] Tryz.f114 3583:=λhc=>
 pN (n':=λp=>((r5 p ()),((r3 p.t5.1 ()),(p.t5.1.t3.1,p.t5.1.t4.1,p.t5.1.t5,()),(p.t6.1,p.t7.1,p.t8,()),()),())) 1000016 hc Oo
theorem YM:LP C OE [2,3,4] Tryz.f114 14335:=λhc=>
 pN (n':=λp=>((r6 p ()),((r3 p.t6.1 ()),(p.t6.1.t3.1,p.t6.1.t4.1,p.t6.1.t5,()),(p.t7.1,p.t8.1,p.t9,()),()),())) 1000019 hc No
theorem vU:OK (3) 114 (s7.sp yj):=
 fO (env:=OE) (za (cc Aj (cc J2 (cc ik (cc Nt (cc laa (cc oaa (cc bC cn)))))))) (fn:=Tryz.f114) (mc:=@Vz) (by intros;simp only[yj,Vz,nn]) (Ca:=[2,3,4]) (hl:=λhc=>(Vi (Ta (wQ hc) (Ta (xQ hc) (Ta (ZM hc) (Ta (YM hc) fc))))))
def u7:FS (Y8) (ga×ga)where
 sk:=⟨(cL [.i,(.agg La),(.agg La)]),[],0⟩
 a:=λu=>(u.1.1,(q3 u.1.2.1),u.1.2.2.1.1,(u.1.2.2.1.2.1,u.1.2.2.1.2.2.1))
 o:=λZ a r K=>kv K (.Re (cL [(.agg La),(.agg La)])) [] 0 ((r.1.1,r.1.2.1,r.1.2.2,()),(r.2.1,r.2.2.1,r.t3,()),()) ()
def cK{X:Type}(a:Y8)(K:(ga×ga)->Option X):Option X:=
 cond (decide (a.1<(14:Int)))
 (K (a.2.1,a.2.2))
 (cond (decide ((19:Int)<a.1))
 (K (a.2.1,a.2.2))
 (cond a.2.1.1
 (K ((true,(0,0)),(true,(0,0))))
 (cond a.2.2.1
 (K ((true,(0,0)),(true,(0,0))))
 (cond (decide (a.2.1.2.1=(0:Int)))
 (cond (decide (a.2.2.2.1=(0:Int)))
 ((Hz (a.1,a.2.1.2.2,a.2.2.2.2)).bind λr1=>
 cond (!r1)
 (K ((true,(0,0)),(true,(0,0))))
 (cond (decide (a.1=(14:Int)))
 ((yj (a.2.1,a.2.2)).bind λr2=>
 K (r2,r2))
 (K (a.2.1,a.2.2))))
 (cond (decide (a.1=(14:Int)))
 ((yj (a.2.1,a.2.2)).bind λr3=>
 K (r3,r3))
 (K (a.2.1,a.2.2))))
 (cond (decide (a.1=(14:Int)))
 ((yj (a.2.1,a.2.2)).bind λr4=>
 K (r4,r4))
 (K (a.2.1,a.2.2)))))))
def Wz:=λa=>cK a some
def mab:Spec:=u7.sp Wz
noncomputable def Paj:Env:=eE [] (Ra [(105,zj),(153,paa),(114,uU)]) qN
theorem nab:OK (4) 113 (u7.sp Wz):=
 fO (env:=Paj) (za (cc Aj (cc qaa (cc vU cn)))) (fn:=Tryz.f113) (mc:=@cK) (by intros;simp only[Wz,cK,nn]) (Ca:=[4,5,6,7,8])
def Iad:FS (Y15) (Ga)where
 sk:=⟨(cL [(.agg Va),(.agg Mb),(.lit Ma),(.agg Sc),.i]),[],0⟩
 a:=λu=>((q8 u.1.1),(q3 u.1.2.1),u.1.2.2.1,(q8 u.1.t3.1),u.1.t4.1)
 o:=λZ a r K=>kv K (.agg Mb) [] 0 (r.1,r.2.1,r.2.2,()) ()
abbrev ID:PD ((List ga)×Int×Bool×Ba×Ga×Lb×Bool) (Int)where
 sk:=⟨[(2,.v (.lit Ma)),(5,.loc 0 0),(6,.loc 1 0),(8,.loc 2 0),(10,.loc 3 0),(11,.i),(18,.v .bool)],[Va,Mb,Sc,(cL [.bool,.Xa,.Xa])],[],0,0⟩
 p:=λu=>(r3 u.1 ((q8 u.2.1.1),(q3 u.2.1.2.1),(q8 u.2.1.2.2.1),u.2.1.t3.1.1))
 st:=λY p ke=>cond p.2.2.1
  ((PE p.2.1).bind λr1=>
  ke (r1))
  (ke (p.2.1))
 o:=λZ p e K=>so K (.normal) ⟨[(2,.v (.lit Ma)),(5,.loc 0 0),(6,.loc 1 0),(8,.loc 2 0),(10,.loc 3 0),(11,.i)],[Va,Mb,Sc,(cL [.bool,.Xa,.Xa])],[],0,0⟩ ((p.1,e,()),((r7 p.t3.1 (p.t3.1.t7,())),(p.t4.1.1,p.t4.1.2.1,p.t4.1.2.2,()),(r7 p.t5.1 (p.t5.1.t7,())),(p.t6,(),(),()),()),())
 ve:=⟨[2,5,6,8,10,11,18],[],[],[]⟩
 pe:=[(.normal,⟨[2,5,6,8,10,11],[],[],[]⟩)]
abbrev FD:PD (Ba×Ga×Lb×Bool×(ga×ga)) (Bool)where
 sk:=⟨[(5,.loc 0 0),(6,.loc 1 0),(8,.loc 2 0),(10,.loc 3 0),(12,.loc 4 0),(13,.loc 5 0)],[Va,Mb,Sc,(cL [.bool,.Xa,.Xa]),La,La],[],0,0⟩
 p:=λu=>((q8 u.2.1.1),(q3 u.2.1.2.1),(q8 u.2.1.2.2.1),u.2.1.t3.1.1,(q3 u.2.1.t4.1),(q3 u.2.1.t5.1))
 st:=λY p ke=>cond p.2.2.2.2.1.1
  (ke (true))
  (ke (p.2.2.2.2.2.1))
 o:=λZ p e K=>so K (.normal) ⟨[(5,.loc 0 0),(6,.loc 1 0),(8,.loc 2 0),(10,.loc 3 0),(12,.loc 4 0),(13,.loc 5 0),(41,.v .bool)],[Va,Mb,Sc,(cL [.bool,.Xa,.Xa]),La,La],[],0,0⟩ ((e,()),((r7 p.1 (p.1.t7,())),(p.2.1.1,p.2.1.2.1,p.2.1.2.2,()),(r7 p.2.2.1 (p.2.2.1.t7,())),(p.t3.1,(),(),()),(p.t4.1.1,p.t4.1.2.1,p.t4.1.2.2,()),(p.t5.1,p.t6.1,p.t7,()),()),())
 ve:=⟨[5,6,8,10,12,13],[],[],[]⟩
 pe:=[(.normal,⟨[5,6,8,10,12,13,41],[],[],[]⟩)]
abbrev HD:PD (Int×Bool×Ga×Lb×Bool×(ga×ga)) ((List ga))where
 sk:=⟨[(6,.loc 0 0),(8,.loc 1 0),(10,.loc 2 0),(12,.loc 3 0),(13,.loc 4 0),(14,.i),(49,.v .bool)],[Mb,Sc,(cL [.bool,.Xa,.Xa]),La,La],[],0,0⟩
 p:=λu=>(u.1.1,u.1.2.1,(q3 u.2.1.1),(q8 u.2.1.2.1),u.2.1.2.2.1.1,(q3 u.2.1.t3.1),(q3 u.2.1.t4.1))
 st:=λY p ke=>cond p.2.1
  (ask (V.ua p.2.2.2.1.2.2.1 (fa p.2.2.1.2.1)) ((yj ((gx p.2.2.1.2.1 (ia p.2.2.2.1.2.2.1) Aa),p.2.2.2.2.2.1)).bind λr1=>
  (vx (p.2.2.1.2.1,p.2.2.2.1.2.2.1,r1)).bind λr2=>
  ke (r2)))
  (ke (p.2.2.1.2.1))
 o:=λZ p e K=>so K (.normal) ⟨[(6,.loc 0 0),(8,.loc 1 0),(10,.loc 2 0),(13,.loc 3 0),(14,.i)],[Mb,Sc,(cL [.bool,.Xa,.Xa]),La],[],0,0⟩ ((p.1,()),((p.2.2.1.1,e,p.2.2.1.2.2,()),(r7 p.t3.1 (p.t3.1.t7,())),(p.t4.1,(),(),()),(p.t6.1,p.t7.1,p.t8,()),()),())
 ve:=⟨[6,8,10,12,13,14,49],[],[],[]⟩
 pe:=[(.normal,⟨[6,8,10,13,14],[],[],[]⟩)]
abbrev jx:PD (Int×Bool×Bool×(List ga)×(List ga)×Lb×Bool×ga) ((List ga))where
 sk:=⟨[(6,.loc 0 0),(8,.loc 1 0),(10,.loc 2 0),(13,.loc 3 0),(14,.i),(67,.v .bool)],[Mb,Sc,(cL [.bool,.Xa,.Xa]),La],[],0,0⟩
 p:=λu=>(u.1.1,u.1.2.1,(r3 u.2.1.1 ((q8 u.2.1.2.1),u.2.1.2.2.1.1,u.2.1.t3.1.1,(u.2.1.t3.1.2.1,u.2.1.t3.1.2.2.1))))
 st:=λY p ke=>cond p.2.1
  (ask (V.ua p.2.2.2.2.2.1.2.2.2.1 (fa p.2.2.2.1)) ((yj ((gx p.2.2.2.1 (ia p.2.2.2.2.2.1.2.2.2.1) Aa),p.2.2.2.2.2.2.2)).bind λr1=>
  (vx (p.2.2.2.1,p.2.2.2.2.2.1.2.2.2.1,r1)).bind λr2=>
  ke (r2)))
  (ke (p.2.2.2.1))
 o:=λZ p e K=>so K (.normal) ⟨[(6,.loc 0 0),(8,.loc 1 0),(10,.loc 2 0),(14,.i)],[Mb,Sc,(cL [.bool,.Xa,.Xa])],[],0,0⟩ ((p.1,()),((p.2.2.1,e,p.t4.1,()),(r7 p.t5.1 (p.t5.1.t7,())),(p.t6.1,(),(),()),()),())
 ve:=⟨[6,8,10,13,14,67],[],[],[]⟩
 pe:=[(.normal,⟨[6,8,10,14],[],[],[]⟩)]
abbrev dx:PD (Int×Bool×(List ga)×(List ga)×Lb×Bool) (Bool)where
 sk:=⟨[(6,.loc 0 0),(8,.loc 1 0),(10,.loc 2 0),(14,.i)],[Mb,Sc,(cL [.bool,.Xa,.Xa])],[],0,0⟩
 p:=λu=>(u.1.1,(r3 u.2.1.1 ((q8 u.2.1.2.1),u.2.1.2.2.1.1)))
 st:=λY p ke=>cond (decide (p.2.2.2.2.1.2.2.1<p.1))
  (ask (V.ua p.2.2.2.2.1.2.2.1 (fa p.2.2.1)) (cond (gx p.2.2.1 (ia p.2.2.2.2.1.2.2.1) Aa).1
  (ke (true))
  (cond (decide (p.2.2.2.2.1.2.2.2.1<p.1))
  (ask (V.ua p.2.2.2.2.1.2.2.2.1 (fa p.2.2.1)) (ke ((gx p.2.2.1 (ia p.2.2.2.2.1.2.2.2.1) Aa).1)))
  (ke (false)))))
  (cond (decide (p.2.2.2.2.1.2.2.2.1<p.1))
  (ask (V.ua p.2.2.2.2.1.2.2.2.1 (fa p.2.2.1)) (ke ((gx p.2.2.1 (ia p.2.2.2.2.1.2.2.2.1) Aa).1)))
  (ke (false)))
 o:=λZ p e K=>so K (.normal) ⟨[(6,.loc 0 0),(10,.loc 1 0),(109,.v .bool)],[Mb,(cL [.bool,.Xa,.Xa])],[],0,0⟩ ((e,()),((r3 p.2 ()),(p.t5,(),(),()),()),())
 ve:=⟨[6,8,10,14],[],[],[]⟩
 pe:=[(.normal,⟨[6,10,109],[],[],[]⟩)]
def nT{X:Type}(a:Y15)(K:Ga->Option X):Option X:=
 (ID.m (a.2.2.1,a.2.2.2.1.2.2.2.2.1,(decide (a.2.2.2.2=(1:Int))),a.1,a.2.1,a.2.2.2.1,false)).bind λe1=>
 ask (V.ua a.2.2.2.1.2.2.1 (fa a.2.2.1)) (ask (V.ua a.2.2.2.1.2.2.2.1 (fa a.2.2.1)) ((Wz (e1,(gx a.2.2.1 (ia a.2.2.2.1.2.2.1) Aa),(gx a.2.2.1 (ia a.2.2.2.1.2.2.2.1) Aa))).bind λr2=>
 (FD.m (a.1,a.2.1,a.2.2.2.1,false,r2)).bind λe3=>
 cond e3
 (K (false,([],[])))
 ((HD.m ((nt (fa a.1.2.2.2.2.2.1)),(decide (a.2.2.2.1.2.2.1<(nt (fa a.1.2.2.2.2.2.1)))),a.2.1,a.2.2.2.1,false,r2)).bind λe4=>
 (jx.m ((nt (fa a.1.2.2.2.2.2.1)),(decide (a.2.2.2.1.2.2.2.1<(nt (fa a.1.2.2.2.2.2.1)))),a.2.1.1,e4,a.2.1.2.2,a.2.2.2.1,false,r2.2)).bind λe5=>
 (dx.m ((nt (fa a.1.2.2.2.2.2.1)),a.2.1.1,e5,a.2.1.2.2,a.2.2.2.1,false)).bind λe6=>
 cond e6
 (K (false,([],[])))
 (K (a.2.1.1,(e5,a.2.1.2.2))))))
def GD:=λa=>nT a some
def Pah:Spec:=Iad.sp GD
noncomputable def nH:Env:=eE [1000003,1000009,1000011,2000005,2000012] (Ra [(112,pab),(113,mab),(114,uU),(55,E3)]) (qL 1000003 ID.q (qL 2000005 FD.q (qL 1000009 HD.q (qL 1000011 jx.q (qL 2000012 dx.q qN)))))
theorem wW:LP C nH [5,6,8,10,12,13] Tryz.f57 27:=λhc=>
 pN (n':=λp=>((r3 p ()),((r7 p.t3.1 (p.t3.1.t7,())),(p.t4.1.1,p.t4.1.2.1,p.t4.1.2.2,()),(r7 p.t5.1 (p.t5.1.t7,())),(p.t6,(),(),()),()),())) 1000003 hc ID
theorem uW:LP C nH [5,6,8,10,12,13] Tryz.f57 79:=λhc=>
 pN (n':=λp=>((),((r7 p.1 (p.1.t7,())),(p.2.1.1,p.2.1.2.1,p.2.1.2.2,()),(r7 p.2.2.1 (p.2.2.1.t7,())),(p.t3.1,(),(),()),(p.t4.1.1,p.t4.1.2.1,p.t4.1.2.2,()),(p.t5.1,p.t6.1,p.t7,()),()),())) 2000005 hc FD
theorem vW:LP C nH [5,6,8,10,12,13] Tryz.f57 447:=λhc=>
 pN (n':=λp=>((p.1,p.2.1,()),((p.2.2.1.1,p.2.2.1.2.1,p.2.2.1.2.2,()),(r7 p.t3.1 (p.t3.1.t7,())),(p.t4.1,(),(),()),(p.t5.1.1,p.t5.1.2.1,p.t5.1.2.2,()),(p.t6.1,p.t7.1,p.t8,()),()),())) 1000009 hc HD
theorem nP:LP C nH [5,6,8,10,12,13] Tryz.f57 895:=λhc=>
 pN (n':=λp=>((p.1,p.2.1,()),((r3 p.2.2 ()),(r7 p.t5.1 (p.t5.1.t7,())),(p.t6.1,(),(),()),(p.t7.1,p.t8.1,p.t9,()),()),())) 1000011 hc jx
theorem mP:LP C nH [5,6,8,10,12,13] Tryz.f57 1279:=λhc=>
 pN (n':=λp=>((p.1,()),((r3 p.2 ()),(r7 p.t4.1 (p.t4.1.t7,())),(p.t5,(),(),()),()),())) 2000012 hc dx
theorem Qah:OK (5) 57 (Iad.sp GD):=
 fO (env:=nH) (za (cc qab (cc nab (cc vU (cc F3 cn))))) (fn:=Tryz.f57) (mc:=@nT) (by intros;simp only[GD,nT,nn]) (Ca:=[5,6,8,10,12,13]) (sh:=(.agg [.any,(.lit Ma),(.lit Ma)])) (fz:=true) (hl:=λhc=>(Vi (Ta (wW hc) (Ta (uW hc) (Ta (vW hc) (Ta (nP hc) (Ta (mP hc) fc)))))))
def vae:FS (Y10) (Ga)where
 sk:=⟨(.cons (.agg Va) (.cons (.agg Mb) Ag)),[],0⟩
 a:=λu=>((q8 u.1.1),(q3 u.1.2.1),u.1.2.2.1,u.1.t3.1)
 o:=λZ a r K=>kv K (.agg Mb) [] 0 (r.1,r.2.1,r.2.2,()) ()
def sE:PD (Kd×Ba×Ga×Bool) (Bool)where
 sk:=⟨[(2,.i),(3,.i),(4,.loc 0 0),(5,.loc 1 0),(8,.loc 2 0)],[Va,Mb,(cL [.bool,.Xa,.Xa])],[],0,0⟩
 p:=λu=>((u.1.1,u.1.2.1),(q8 u.2.1.1),(q3 u.2.1.2.1),u.2.1.2.2.1.1)
 st:=λY p ke=>cond (!p.2.2.1.1)
  (ke (true))
  (cond (decide (p.1.2<(0:Int)))
  (ke (true))
  (cond (decide ((1:Int)<p.1.2))
  (ke (true))
  (ask (V.ua p.1.1 (fa p.2.1.1)) (cond (decide (p.1.2=(0:Int)))
  (ke ((decide ((gx p.2.1.1 (ia p.1.1) Pb).2.2.2.2.2.2.1=(-1:Int)))))
  (cond (decide (p.1.2=(1:Int)))
  (ke ((decide ((gx p.2.1.1 (ia p.1.1) Pb).2.2.2.2.2.2.2=(-1:Int)))))
  (none))))))
 o:=λZ p e K=>so K (.normal) ⟨[(2,.i),(3,.i),(4,.loc 0 0),(5,.loc 1 0),(8,.loc 2 0),(36,.v .bool)],[Va,Mb,(cL [.bool,.Xa,.Xa])],[],0,0⟩ ((p.1.1,p.1.2,e,()),((r7 p.2.1 (p.2.1.t7,())),(p.2.2.1.1,p.2.2.1.2.1,p.2.2.1.2.2,()),(p.t3,(),(),()),()),())
 ve:=⟨[2,3,4,5,8],[],[],[]⟩
 pe:=[(.normal,⟨[2,3,4,5,8,36],[],[],[]⟩)]
def Jr:PD (Int×(List ga)×Ba×Ga×Bool×Lb) (Bool)where
 sk:=⟨[(3,.i),(4,.loc 0 0),(5,.loc 1 0),(8,.loc 2 0),(9,.loc 3 0),(10,.v (.lit Ma))],[Va,Mb,(cL [.bool,.Xa,.Xa]),Sc],[],0,0⟩
 p:=λu=>(u.1.1,u.1.2.1,(q8 u.2.1.1),(q3 u.2.1.2.1),u.2.1.2.2.1.1,u.2.1.t3.1.1,(q7 u.2.1.t3.1.2))
 st:=λY p ke=>cond (decide ((2:Int)<=p.2.2.2.2.2.1))
  (cond (decide (p.2.2.2.2.2.1<=(8:Int)))
  (ask (V.ua p.2.2.2.2.2.2.1 (fa p.2.1)) (ke ((gx p.2.1 (ia p.2.2.2.2.2.2.1) Aa).1)))
  (ke (false)))
  (ke (false))
 o:=λZ p e K=>so K (.normal) ⟨[(3,.i),(4,.loc 0 0),(5,.loc 1 0),(8,.loc 2 0),(9,.loc 3 0),(10,.v (.lit Ma)),(61,.v .bool)],[Va,Mb,(cL [.bool,.Xa,.Xa]),Sc],[],0,0⟩ ((p.1,p.2.1,e,()),((r7 p.2.2.1 (p.2.2.1.t7,())),(p.t3.1.1,p.t3.1.2.1,p.t3.1.2.2,()),(p.t4.1,(),(),()),(r7 p.t5 (p.t12,())),()),())
 ve:=⟨[3,4,5,8,9,10],[],[],[]⟩
 pe:=[(.normal,⟨[3,4,5,8,9,10,61],[],[],[]⟩)]
def Wp:PD (Int×(List ga)×Bool×Ba×Ga×Bool×Lb) ((Unit) ⊕ ((List ga)))where
 sk:=⟨[(3,.i),(4,.loc 0 0),(5,.loc 1 0),(8,.loc 2 0),(9,.loc 3 0),(10,.v (.lit Ma)),(65,.v .bool)],[Va,Mb,(cL [.bool,.Xa,.Xa]),Sc],[],0,0⟩
 p:=λu=>(r3 u.1 ((q8 u.2.1.1),(q3 u.2.1.2.1),u.2.1.2.2.1.1,u.2.1.t3.1.1,(q7 u.2.1.t3.1.2)))
 st:=λY p ke=>cond p.2.2.1
  (ask (V.ua p.2.2.2.2.2.2.2.2.1 (fa p.2.1)) (ask (V.ua p.2.2.2.2.2.2.2.1 (fa p.2.2.2.1.2.2.2.2.2.1)) ((YA (gx p.2.2.2.1.2.2.2.2.2.1 (ia p.2.2.2.2.2.2.2.1) ud).2.1).bind λr1=>
  (KD ((gx p.2.1 (ia p.2.2.2.2.2.2.2.2.1) Aa),r1)).bind λr2=>
  cond r2.1.1
  (ke (.inl ()))
  ((vx (p.2.2.2.2.1.2.1,p.2.2.2.2.2.2.2.1,r2.1)).bind λr3=>
  ke (.inr (r3))))))
  (ke (.inr (p.2.2.2.2.1.2.1)))
 o:=λZ p e K=>Sum.elim (λe=>so K (.ret) ⟨[(8,.loc 0 0)],[(cL [.bool,.Xa,.Xa])],[],0,0⟩ ((),((false,(),(),()),()),())) (λe=>so K (.normal) ⟨[(3,.i),(4,.loc 0 0),(5,.loc 1 0),(8,.loc 2 0),(9,.loc 3 0),(10,.v (.lit Ma))],[Va,Mb,(cL [.bool,.Xa,.Xa]),Sc],[],0,0⟩ ((p.1,p.2.1,()),((r7 p.t3.1 (p.t3.1.t7,())),(p.t4.1.1,e,p.t4.1.2.2,()),(p.t5.1,(),(),()),(r7 p.t6 (p.t13,())),()),())) e
 ve:=⟨[3,4,5,8,9,10,65],[],[],[]⟩
 pe:=[(.ret,⟨[8],[],[],[]⟩),(.normal,⟨[3,4,5,8,9,10],[],[],[]⟩)]
def zx:PD (Int×(List ga)×Bool×(Ba×(Bool×((List ga)×((List ga)×(Bool×Lb)))))×ga) (Bool×Int×Int)where
 sk:=⟨[(3,.i),(4,.loc 0 0),(5,.loc 1 0),(8,.loc 2 0),(9,.loc 3 0),(10,.v (.lit Ma)),(13,.loc 4 0),(123,.v .bool)],[Va,Mb,(cL [.bool,.Xa,.Xa]),Sc,La],[],0,0⟩
 p:=λu=>(r3 u.1 (((q8 u.2.1.1),(u.2.1.2.1.1,(u.2.1.2.1.2.1,(u.2.1.2.1.2.2.1,(u.2.1.2.2.1.1,(q8 u.2.1.t3.1)))))),u.2.1.t4.1.1,(u.2.1.t4.1.2.1,u.2.1.t4.1.2.2.1)))
 st:=λY p ke=>cond p.2.2.1
  (ask (V.ua p.2.2.2.1.2.2.2.2.2.2.2.1 (fa p.2.2.2.1.2.2.2.1)) ((ux ((gx p.2.2.2.1.2.2.2.1 (ia p.2.2.2.1.2.2.2.2.2.2.2.1) Aa),p.2.2.2.2)).bind λr1=>
  ke ((r1.1,r1.2.1,r1.2.2))))
  (ke ((p.2.2.2.2.1,p.2.2.2.2.2.1,p.2.2.2.2.2.2)))
 o:=λZ p e K=>so K (.normal) ⟨[(3,.i),(4,.loc 0 0),(5,.loc 1 0),(8,.loc 2 0),(9,.loc 3 0),(10,.v (.lit Ma)),(13,.loc 4 0)],[Va,Mb,(cL [.bool,.Xa,.Xa]),Sc,La],[],0,0⟩ ((p.1,p.2.1,()),((r7 p.t3.1.1 (p.t3.1.1.t7,())),(r3 p.t3.1.2 ()),(p.t3.1.t4.1,(),(),()),(r7 p.t3.1.t5 (p.t3.1.t12,())),(e.1,e.2.1,e.2.2,()),()),())
 ve:=⟨[3,4,5,8,9,10,13,123],[],[],[]⟩
 pe:=[(.normal,⟨[3,4,5,8,9,10,13],[],[],[]⟩)]
def ck:PD (Int×(List ga)×Bool×Ba×Bool×(List ga)×(List ga)×Bool×Lb) ((Unit) ⊕ ((List ga)))where
 sk:=⟨[(3,.i),(4,.loc 0 0),(5,.loc 1 0),(8,.loc 2 0),(9,.loc 3 0),(10,.v (.lit Ma)),(95,.v .bool)],[Va,Mb,(cL [.bool,.Xa,.Xa]),Sc],[],0,0⟩
 p:=λu=>(r3 u.1 ((q8 u.2.1.1),(r3 u.2.1.2.1 (u.2.1.2.2.1.1,u.2.1.t3.1.1,(q7 u.2.1.t3.1.2)))))
 st:=λY p ke=>cond p.2.2.1
  (ask (V.ua p.2.2.2.2.2.2.2.2.2.1 (fa p.2.1)) (ask (V.ua p.2.2.2.2.2.2.2.2.2.2.1 (fa p.2.2.2.1.2.2.2.2.2.2.1)) ((YA (gx p.2.2.2.1.2.2.2.2.2.2.1 (ia p.2.2.2.2.2.2.2.2.2.2.1) Ob).2.1).bind λr1=>
  (KD ((gx p.2.1 (ia p.2.2.2.2.2.2.2.2.2.1) Aa),r1)).bind λr2=>
  cond r2.1.1
  (ke (.inl ()))
  (ask (V.ua p.2.2.2.2.2.2.2.2.2.2.1 (fa p.2.2.2.1.2.2.2.2.2.2.1)) ((zx.m (p.1,p.2.1,(decide ((1:Int)<(gx p.2.2.2.1.2.2.2.2.2.2.1 (ia p.2.2.2.2.2.2.2.2.2.2.1) Ob).2.2.1)),p.2.2.2,r2.1)).bind λe3=>
  (vx (p.2.2.2.2.2.2.1,p.2.2.2.2.2.2.2.2.2.2.1,e3)).bind λr4=>
  ke (.inr (r4)))))))
  (ke (.inr (p.2.2.2.2.2.2.1)))
 o:=λZ p e K=>Sum.elim (λe=>so K (.ret) ⟨[(8,.loc 0 0)],[(cL [.bool,.Xa,.Xa])],[],0,0⟩ ((),((false,(),(),()),()),())) (λe=>so K (.normal) ⟨[(3,.i),(4,.loc 0 0),(5,.loc 1 0),(8,.loc 2 0),(9,.loc 3 0),(10,.v (.lit Ma))],[Va,Mb,(cL [.bool,.Xa,.Xa]),Sc],[],0,0⟩ ((p.1,p.2.1,()),((r7 p.t3.1 (p.t3.1.t7,())),(p.t4.1,p.t5.1,e,()),(p.t7.1,(),(),()),(r7 p.t8 (p.t15,())),()),())) e
 ve:=⟨[3,4,5,8,9,10,95],[],[],[]⟩
 pe:=[(.ret,⟨[8],[],[],[]⟩),(.normal,⟨[3,4,5,8,9,10],[],[],[]⟩)]
def KM{X:Type}(a:Y10)(K:Ga->Option X):Option X:=
 (sE.m (a.2.2,a.1,a.2.1,false)).bind λe1=>
 cond e1
 (K (false,([],[])))
 (ask (V.ua a.2.2.1 (fa a.1.1)) ((QD (a.1,a.2.1)).bind λr2=>
 (Jr.m (a.2.2.2,r2,a.1,a.2.1,false,(gx a.1.1 (ia a.2.2.1) Pb))).bind λe3=>
 cond e3
 (K (false,([],[])))
 ((Wp.m (a.2.2.2,r2,(decide ((gx a.1.1 (ia a.2.2.1) Pb).1=(13:Int))),a.1,a.2.1,false,(gx a.1.1 (ia a.2.2.1) Pb))).bind λe4=>
 Sum.elim (λe5=>K (false,([],[])))
 (λe6=>(ck.m (a.2.2.2,r2,(decide ((gx a.1.1 (ia a.2.2.1) Pb).1=(14:Int))),a.1,a.2.1.1,e6,a.2.1.2.2,false,(gx a.1.1 (ia a.2.2.1) Pb))).bind λe7=>
 Sum.elim (λe8=>K (false,([],[])))
 (λe9=>cond (decide ((gx a.1.1 (ia a.2.2.1) Pb).1=(15:Int)))
 ((GD (a.1,(a.2.1.1,(e6,e9)),r2,(gx a.1.1 (ia a.2.2.1) Pb),a.2.2.2)).bind λEN=>
 K EN)
 (K (a.2.1.1,(e6,e9)))) e7) e4)))
def zu:=λa=>KM a some
def Z4:Spec:=vae.sp zu
noncomputable def xH:Env:=eE [1000008,1000013,1000017,2000001,2000005] (Ra [(48,Zah),(54,I3),(53,Sah),(55,E3),(56,bJ),(57,Pah)]) (qL 2000001 sE.q (qL 2000005 Jr.q (qL 1000008 Wp.q (qL 1000017 zx.q (qL 1000013 ck.q qN)))))
theorem oX:LP C xH [4,5,8,9,11,12,13,14] Tryz.f19 9:=λhc=>
 pN (n':=λp=>((p.1.1,p.1.2,()),((r7 p.2.1 (p.2.1.t7,())),(p.2.2.1.1,p.2.2.1.2.1,p.2.2.1.2.2,()),(p.t3,(),(),()),()),())) 2000001 hc sE (by intros;simp only[sE,PD.m,nn])
theorem nX:LP C xH [4,5,8,9,11,12,13,14] Tryz.f19 79:=λhc=>
 pN (n':=λp=>((p.1,p.2.1,()),((r7 p.2.2.1 (p.2.2.1.t7,())),(p.t3.1.1,p.t3.1.2.1,p.t3.1.2.2,()),(p.t4.1,(),(),()),(r7 p.t5 (p.t12,())),()),())) 2000005 hc Jr (by intros;simp only[Jr,PD.m,nn])
theorem pX:LP C xH [4,5,8,9,11,12,13,14] Tryz.f19 223:=λhc=>
 pN (n':=λp=>((r3 p ()),((r7 p.t3.1 (p.t3.1.t7,())),(p.t4.1.1,p.t4.1.2.1,p.t4.1.2.2,()),(p.t5.1,(),(),()),(r7 p.t6 (p.t13,())),()),())) 1000008 hc Wp (by intros;simp only[Wp,PD.m,nn])
theorem DP:LP C xH [4,5,8,9,11,12,13,14] Tryz.f19 14015:=λhc=>
 pN (n':=λp=>((r3 p ()),((r7 p.t3.1.1 (p.t3.1.1.t7,())),(r3 p.t3.1.2 ()),(p.t3.1.t4.1,(),(),()),(r7 p.t3.1.t5 (p.t3.1.t12,())),(p.t4.1,p.t5.1,p.t6,()),()),())) 1000017 hc zx (by intros;simp only[zx,PD.m,nn])
theorem EP:LP C xH [4,5,8,9,11,12,13,14] Tryz.f19 447:=λhc=>
 pN (n':=λp=>((r3 p ()),((r7 p.t3.1 (p.t3.1.t7,())),(r3 p.t4 ()),(p.t7.1,(),(),()),(r7 p.t8 (p.t15,())),()),())) 1000013 hc ck (by intros;simp only[ck,PD.m,nn]) (hl:=(Vi (Ta (DP hc) fc)))
theorem l5:OK (8) 19 (vae.sp zu):=
 fO (env:=xH) (za (cc aai (cc J3 (cc Tah (cc F3 (cc cJ (cc Qah cn))))))) (fn:=Tryz.f19) (mc:=@KM) (by intros;simp only[zu,KM,nn]) (Ca:=[4,5,8,9,11,12,13,14]) (sh:=(.agg [.any,(.lit Ma),(.lit Ma)])) (fz:=true) (hl:=λhc=>(Vi (Ta (oX hc) (Ta (nX hc) (Ta (pX hc) (Ta (EP hc) fc))))))
def oad:FS (Y3) ((List ga))where
 sk:=⟨(cL [(.lit Ma),(.lit Ma)]),[],0⟩
 a:=λu=>(u.1.1,u.1.2.1)
 o:=λZ a r K=>kv K (.lit Ma) [] 0 r ()
abbrev xD:LD (((List ga)×(List ga))) (Int×(List ga)) ((List ga))where
 sk:=⟨[(0,.v (.lit Ma)),(1,.v (.lit Ma)),(5,.v (.all 0)),(6,.i)],[],[.cells Ma],0,0⟩
 p:=λu=>(u.1.1,u.1.2.1)
 t:=λu=>(u.1.t3.1,u.2.2.1)
 n:=λp t=>((p.1,p.2,(),t.1,()),(),t.2,())
 st:=λY p t ki ke=>cond (decide (t.1<(nt (fa p.1))))
  (ask (V.ua t.1 (fa p.1)) (ask (V.ua t.1 (fa p.2)) ((ux ((gx p.1 (ia t.1) Aa),(gx p.2 (ia t.1) Aa))).bind λr1=>
  ask (decide (((fa t.2)+(fa ([r1]:List ga))) * 24<=70368744177664)&&decide (((fa t.2)+(fa ([r1]:List ga)))<9223372036854775808)) (ki ((Ka (t.1+(1:Int))),(t.2++([r1]:List ga)))))))
  (ke (t.2))
 o:=λZ p e K=>so K (.exit 0) ⟨[(5,.v (.all 0))],[],[.cells Ma],0,0⟩ (((),()),(),e,())
 ve:=⟨[0,1,5,6],[(5,(.own Ma))],[],[]⟩
 pe:=[(.exit 0,⟨[5],[],[],[]⟩)]
def XS{X:Type}(a:Y3)(K:(List ga)->Option X):Option X:=
 (Ua (xD.m a) (0,[])).bind λe1=>
 K e1
def wD:=λa=>XS a some
def uah:Spec:=oad.sp wD
noncomputable def qad:Env:=eE [] (Ra [(56,bJ)]) (qL 3 xD.q qN)
theorem nW:LL C qad [] Tryz.f76 75:=λhc=>
 lO hc xD
theorem vah:OK (5) 76 (oad.sp wD):=
 fO (env:=qad) (za (cc cJ cn)) (fn:=Tryz.f76) (mc:=@XS) (by intros;simp only[wD,XS,nn]) (sh:=(.lit Ma)) (fz:=true) (hl:=λhc=>(Vi (Ta (nW hc) fc)))
def gae:FS (Ga×Ga) (Ga)where
 sk:=⟨(cL [(.agg Mb),(.agg Mb)]),[],0⟩
 a:=λu=>((q3 u.1.1),u.1.2.1.1,(u.1.2.1.2.1,u.1.2.1.2.2.1))
 o:=λZ a r K=>kv K (.agg Mb) [] 0 (r.1,r.2.1,r.2.2,()) ()
def NT{X:Type}(a:Ga×Ga)(K:Ga->Option X):Option X:=
 cond (!a.1.1)
 (K a.2)
 (cond (!a.2.1)
 (K a.1)
 ((wD (a.1.2.1,a.2.2.1)).bind λr1=>
 (wD (a.1.2.2,a.2.2.2)).bind λr2=>
 K (true,(r1,r2))))
def cE:=λa=>NT a some
def X3:Spec:=gae.sp cE
noncomputable def Nao:Env:=eE [] (Ra [(76,uah)]) qN
theorem Z3:OK (6) 36 (gae.sp cE):=
 fO (env:=Nao) (za (cc vah cn)) (fn:=Tryz.f36) (mc:=@NT) (by intros;simp only[cE,NT,nn]) (Ca:=[2,3,4]) (sh:=(.agg [.any,(.lit Ma),(.lit Ma)])) (fz:=true)
end
end Go.U
end
