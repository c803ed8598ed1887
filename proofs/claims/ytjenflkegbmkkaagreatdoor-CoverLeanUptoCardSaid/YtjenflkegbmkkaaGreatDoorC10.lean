/- The functions of the program as Lean functions, and that the evaluator says so. -/
import Derived.Test.YtjenflkegbmkkaaGreatDoorC9
set_option linter.unusedVariables false
set_option linter.unusedSimpArgs false
set_option linter.unusedSectionVars false
open Int renaming toNat→fa
open List renaming length→da,set→Oa
section
set_option maxRecDepth 100000
namespace Go.U
open Go Go.Proofs
noncomputable section
variable {C:V.Callee}
def ZK:FS (ku) (Int)where
 sk:=⟨(cL [(.ptr 0 0),(.agg Kb)]),[.Za Dd,.cells .i,.deep .i,.cells (.slice .i)],0⟩
 a:=fun u=>((q8 u.1.2.1),(Ig u.2.1 (r5 u.2.1.t12 (u.2.2.1,u.t3.1,u.t4.1))))
 o:=fun Z a r K=>kv K .i [.Za Dd,.cells .i,.deep .i,.cells (.slice .i)] 0 r ((Ig a.2 ((),(r5 a.t12 ((),(),(),())))),a.t17.1,a.t18.1,a.t19,())
def Lw{X:Type}(a:ku)(K:Int->Option X):Option X:=
 ask (V.ja a.1.2.2.1 (da a.2.2.2.2.2.2.2.2.2.2.2.2.2.2.2.2.2.1)) (ask (V.ja a.1.2.2.2.1 (da a.2.2.2.2.2.2.2.2.2.2.2.2.2.2.2.2.2.1)) (cond (decide (a.1.2.2.2.2.1=(14:Int)))
 (cond (decide ((gx a.2.2.2.2.2.2.2.2.2.2.2.2.2.2.2.2.2.1 (fa a.1.2.2.1) (0:Int))=(gx a.2.2.2.2.2.2.2.2.2.2.2.2.2.2.2.2.2.1 (fa a.1.2.2.2.1) (0:Int))))
 (K 0)
 (K 1))
 (cond (decide (a.1.2.2.2.2.1=(15:Int)))
 (cond (!(decide ((gx a.2.2.2.2.2.2.2.2.2.2.2.2.2.2.2.2.2.1 (fa a.1.2.2.1) (0:Int))=(gx a.2.2.2.2.2.2.2.2.2.2.2.2.2.2.2.2.2.1 (fa a.1.2.2.2.1) (0:Int)))))
 (K 0)
 (K 1))
 (cond (decide (a.1.2.2.2.2.1=(16:Int)))
 (cond (decide ((gx a.2.2.2.2.2.2.2.2.2.2.2.2.2.2.2.2.2.1 (fa a.1.2.2.1) (0:Int))<(gx a.2.2.2.2.2.2.2.2.2.2.2.2.2.2.2.2.2.1 (fa a.1.2.2.2.1) (0:Int))))
 (K 0)
 (K 1))
 (cond (decide (a.1.2.2.2.2.1=(17:Int)))
 (cond (decide ((gx a.2.2.2.2.2.2.2.2.2.2.2.2.2.2.2.2.2.1 (fa a.1.2.2.1) (0:Int))<=(gx a.2.2.2.2.2.2.2.2.2.2.2.2.2.2.2.2.2.1 (fa a.1.2.2.2.1) (0:Int))))
 (K 0)
 (K 1))
 (cond (decide (a.1.2.2.2.2.1=(18:Int)))
 (cond (decide ((gx a.2.2.2.2.2.2.2.2.2.2.2.2.2.2.2.2.2.1 (fa a.1.2.2.2.1) (0:Int))<(gx a.2.2.2.2.2.2.2.2.2.2.2.2.2.2.2.2.2.1 (fa a.1.2.2.1) (0:Int))))
 (K 0)
 (K 1))
 (cond (decide (a.1.2.2.2.2.1=(19:Int)))
 (cond (decide ((gx a.2.2.2.2.2.2.2.2.2.2.2.2.2.2.2.2.2.1 (fa a.1.2.2.2.1) (0:Int))<=(gx a.2.2.2.2.2.2.2.2.2.2.2.2.2.2.2.2.2.1 (fa a.1.2.2.1) (0:Int))))
 (K 0)
 (K 1))
 (K 1))))))))
def Bh:=fun a=>Lw a some
def GU:Spec:=ZK.sp Bh
noncomputable def E2:Env:=eE [] (mb []) qN
theorem HU:OK (1) 100 (ZK.sp Bh):=
 fO (d:=0) (env:=E2) (Da cn) (fn:=Tryz.f100) (mc:=@Lw) (by intros;simp only[Bh,Lw,nn]) (Fa:=[3])
def VK:FS (Y19) (Unit)where
 sk:=⟨(cL [(.ptr 0 0),(.agg Kb),.i]),[.Za Dd,.cells .i,.deep .i,.cells (.slice .i)],0⟩
 a:=fun u=>((q8 u.1.2.1),u.1.2.2.1,(Ig u.2.1 (r5 u.2.1.t12 (u.2.2.1,u.t3.1,u.t4.1))))
 o:=fun Z a r K=>kv K (.Qc .nil) [.Za Dd,.cells .i,.deep .i,.cells (.slice .i)] 0 () ((Ig a.2.2 ((),(1:Int),a.1.t5.1,a.2.1,a.t16.1,a.t17.1,(),(),(),())),a.t18.1,a.t19.1,a.t20,())
def xC{X:Type}(a:Y19)(K:Unit->Option X):Option X:=
 K ()
def wC:=fun a=>xC a some
def CU:Spec:=VK.sp wC
noncomputable def V1:Env:=eE [] (mb []) qN
theorem DU:OK (1) 126 (VK.sp wC):=
 fO (d:=0) (env:=V1) (Da cn) (fn:=Tryz.f126) (mc:=@xC) (by intros;simp only[wC,xC,nn]) (Fa:=[4])
def UK:FS (ku) (Bool)where
 sk:=⟨(cL [(.ptr 0 0),(.agg Kb)]),[.Za Dd,.cells .i,.deep .i,.cells (.slice .i)],0⟩
 a:=fun u=>((q8 u.1.2.1),(Ig u.2.1 (r5 u.2.1.t12 (u.2.2.1,u.t3.1,u.t4.1))))
 o:=fun Z a r K=>kv K (.bool) [.Za Dd,.cells .i,.deep .i,.cells (.slice .i)] 0 r ((Ig a.2 ((),(r5 a.t12 ((),(),(),())))),a.t17.1,a.t18.1,a.t19,())
def Iw{X:Type}(a:ku)(K:Bool->Option X):Option X:=
 ask (V.ja a.1.2.2.1 (da a.2.2.2.2.2.2.2.2.2.2.2.2.2.2.2.2.2.1)) (ask (V.ja a.1.2.2.2.1 (da a.2.2.2.2.2.2.2.2.2.2.2.2.2.2.2.2.2.1)) (cond (decide (a.1.2.2.2.2.1=(14:Int)))
 (K (decide ((gx a.2.2.2.2.2.2.2.2.2.2.2.2.2.2.2.2.2.1 (fa a.1.2.2.1) (0:Int))=(gx a.2.2.2.2.2.2.2.2.2.2.2.2.2.2.2.2.2.1 (fa a.1.2.2.2.1) (0:Int)))))
 (cond (decide (a.1.2.2.2.2.1=(15:Int)))
 (K (!(decide ((gx a.2.2.2.2.2.2.2.2.2.2.2.2.2.2.2.2.2.1 (fa a.1.2.2.1) (0:Int))=(gx a.2.2.2.2.2.2.2.2.2.2.2.2.2.2.2.2.2.1 (fa a.1.2.2.2.1) (0:Int))))))
 (cond (decide (a.1.2.2.2.2.1=(16:Int)))
 (K (decide ((gx a.2.2.2.2.2.2.2.2.2.2.2.2.2.2.2.2.2.1 (fa a.1.2.2.1) (0:Int))<(gx a.2.2.2.2.2.2.2.2.2.2.2.2.2.2.2.2.2.1 (fa a.1.2.2.2.1) (0:Int)))))
 (cond (decide (a.1.2.2.2.2.1=(17:Int)))
 (K (decide ((gx a.2.2.2.2.2.2.2.2.2.2.2.2.2.2.2.2.2.1 (fa a.1.2.2.1) (0:Int))<=(gx a.2.2.2.2.2.2.2.2.2.2.2.2.2.2.2.2.2.1 (fa a.1.2.2.2.1) (0:Int)))))
 (cond (decide (a.1.2.2.2.2.1=(18:Int)))
 (K (decide ((gx a.2.2.2.2.2.2.2.2.2.2.2.2.2.2.2.2.2.1 (fa a.1.2.2.2.1) (0:Int))<(gx a.2.2.2.2.2.2.2.2.2.2.2.2.2.2.2.2.2.1 (fa a.1.2.2.1) (0:Int)))))
 (K (decide ((gx a.2.2.2.2.2.2.2.2.2.2.2.2.2.2.2.2.2.1 (fa a.1.2.2.2.1) (0:Int))<=(gx a.2.2.2.2.2.2.2.2.2.2.2.2.2.2.2.2.2.1 (fa a.1.2.2.1) (0:Int)))))))))))
def Yn:=fun a=>Iw a some
def AU:Spec:=UK.sp Yn
noncomputable def T1:Env:=eE [] (mb []) qN
theorem BU:OK (1) 128 (UK.sp Yn):=
 fO (d:=0) (env:=T1) (Da cn) (fn:=Tryz.f128) (mc:=@Iw) (by intros;simp only[Yn,Iw,nn]) (Fa:=[3])
def TK:FS (T4) (Bool×Int×Int)where
 sk:=⟨(.cons (.ptr 0 0) .nil),[.Za Dd,.cells .i,.deep .i,.cells (.slice .i)],0⟩
 a:=fun u=>(Ig u.2.1 (r5 u.2.1.t12 (u.2.2.1,u.t3.1,u.t4.1)))
 o:=fun Z a r K=>kv K (.bool) [.Za Dd,.cells .i,.deep .i,.cells (.slice .i)] 0 r.1 ((r9 a (r.2.1,a.t10.1,(),r.2.2,(r4 a.t12 ((),(),(),())))),a.t16.1,a.t17.1,a.t18,())
def vC{X:Type}(a:T4)(K:(Bool×Int×Int)->Option X):Option X:=
 cond (decide (a.2.2.2.2.2.2.2.2.2.1<=(0:Int)))
 (K (false,a.2.2.2.2.2.2.2.2.2.1,4))
 (K (true,(Ea (a.2.2.2.2.2.2.2.2.2.1-(1:Int))),a.2.2.2.2.2.2.2.2.2.2.2.1))
def Il:=fun a=>vC a some
def yU:Spec:=TK.sp Il
noncomputable def S1:Env:=eE [] (mb []) qN
theorem zU:OK (1) 129 (TK.sp Il):=
 fO (d:=0) (env:=S1) (Da cn) (fn:=Tryz.f129) (mc:=@vC) (by intros;simp only[Il,vC,nn])
def SK:FS (T4) ((List Int))where
 sk:=⟨(.cons (.ptr 0 0) .nil),[.Za Dd,.cells .i,.deep .i,.cells (.slice .i)],4⟩
 a:=fun u=>(Ig u.2.1 (r5 u.2.1.t12 (u.2.2.1,u.t3.1,u.t4.1)))
 o:=fun Z a r K=>kv K (.lit .i) [.Za Dd,.cells .i,.deep .i,.cells (.slice .i)] 4 r ((Ig a ((),(r5 a.t11 ((),(),(),())))),a.t16.1,a.t17.1,a.t18,())
def Hw{X:Type}(a:T4)(K:(List Int)->Option X):Option X:=
 ask (decide (0<=(0:Int))&&decide ((0:Int)<=(nt (da a.2.2.2.2.2.1)))&&decide ((nt (da a.2.2.2.2.2.1))<=(nt (da a.2.2.2.2.2.2.2.2.2.2.2.2.2.2.2.2.1)))) (ask (decide ((da (Fk 0 (fa (nt (da a.2.2.2.2.2.1))-0) a.2.2.2.2.2.2.2.2.2.2.2.2.2.2.2.2.1)) * 8<=70368744177664)&&decide ((da (Fk 0 (fa (nt (da a.2.2.2.2.2.1))-0) a.2.2.2.2.2.2.2.2.2.2.2.2.2.2.2.2.1))<9223372036854775808)) (K (Fk 0 (fa (nt (da a.2.2.2.2.2.1))-0) a.2.2.2.2.2.2.2.2.2.2.2.2.2.2.2.2.1)))
def Xn:=fun a=>Hw a some
def vU:Spec:=SK.sp Xn
noncomputable def Q1:Env:=eE [] (mb []) qN
theorem wU:OK (1) 130 (SK.sp Xn):=
 fO (d:=0) (env:=Q1) (Da cn) (fn:=Tryz.f130) (mc:=@Hw) (by intros;simp only[Xn,Hw,nn]) (sh:=(.lit (.int .i64))) (fz:=true)
def RK:FS (ku) (Int×Int)where
 sk:=⟨(cL [(.ptr 0 0),(.agg Kb)]),[.Za Dd,.cells .i,.deep .i,.cells (.slice .i)],0⟩
 a:=fun u=>((q8 u.1.2.1),(Ig u.2.1 (r5 u.2.1.t12 (u.2.2.1,u.t3.1,u.t4.1))))
 o:=fun Z a r K=>kv K (.Qc Eg) [.Za Dd,.cells .i,.deep .i,.cells (.slice .i)] 0 (r.1,r.2,()) ((Ig a.2 ((),(r5 a.t12 ((),(),(),())))),a.t17.1,a.t18.1,a.t19,())
def Gl:PD (Int×Int×Bool×((List Wa)×(Int×(Int×(Int×((List Bb)×((List Xb)×((List Bb)×((List za)×(pG)))))))))) (Int)where
 sk:=⟨[(6,.i),(8,.i),(40,.v .bool)],[],[.Za Dd,.cells .i,.deep .i,.cells (.slice .i)],0,4⟩
 p:=fun u=>(r3 u.1 (u.2.2.1.1,(u.2.2.1.2.1,(u.2.2.1.2.2.1,(u.2.2.1.t3.1,(u.2.2.1.t4.1,(u.2.2.1.t5.1,(u.2.2.1.t6.1,(u.2.2.1.t7.1,(u.2.2.1.t8.1,(u.2.2.1.t9.1,(u.2.2.1.t10.1,(u.2.2.1.t12.1,(u.2.2.1.t13.1,(u.2.2.1.t14.1,(u.2.2.1.t15.1,(u.2.2.1.t16.1,(q3 u.t3))))))))))))))))))
 st:=fun Y p ke=>cond p.2.2.1
  (ke ((Ea ((0:Int)-p.1))))
  (ke (p.2.1))
 o:=fun Z p e K=>so K (.normal) ⟨[(8,.i)],[],[.Za Dd,.cells .i,.deep .i,.cells (.slice .i)],0,4⟩ ((e,()),(),(Ig p.t3 ((),(r5 p.t14 ((),(),(),())))),p.t19.1,p.t20.1,p.t21,())
 Kd:=⟨[6,8,40],[],[],[]⟩
 pe:=[(.normal,⟨[8],[],[],[]⟩)]
def sj:PD (Int×Int×((List Wa)×(Int×(Int×(Int×((List Bb)×((List Xb)×((List Bb)×((List za)×(pG)))))))))) (Bool)where
 sk:=⟨[(6,.i),(7,.i)],[],[.Za Dd,.cells .i,.deep .i,.cells (.slice .i)],0,4⟩
 p:=fun u=>(u.1.1,u.1.2.1,u.2.2.1.1,(u.2.2.1.2.1,(u.2.2.1.2.2.1,(u.2.2.1.t3.1,(u.2.2.1.t4.1,(u.2.2.1.t5.1,(u.2.2.1.t6.1,(u.2.2.1.t7.1,(u.2.2.1.t8.1,(u.2.2.1.t9.1,(u.2.2.1.t10.1,(u.2.2.1.t12.1,(u.2.2.1.t13.1,(u.2.2.1.t14.1,(u.2.2.1.t15.1,(u.2.2.1.t16.1,(q3 u.t3)))))))))))))))))
 st:=fun Y p ke=>cond (decide (p.1=(-2147483648:Int)))
  (ke ((decide (p.2.1=(-1:Int)))))
  (ke (false))
 o:=fun Z p e K=>so K (.normal) ⟨[(6,.i),(7,.i),(74,.v .bool)],[],[.Za Dd,.cells .i,.deep .i,.cells (.slice .i)],0,4⟩ ((p.1,p.2.1,e,()),(),(Ig p.2.2 ((),(r5 p.t13 ((),(),(),())))),p.t18.1,p.t19.1,p.t20,())
 Kd:=⟨[6,7],[],[],[]⟩
 pe:=[(.normal,⟨[6,7,74],[],[],[]⟩)]
def Dl:PD (Int×Int×Int×Int×Bool×(Wa×((List Wa)×(Int×(Int×(Int×((List Bb)×((List Xb)×((List Bb)×((List za)×(pG))))))))))) ((Int) ⊕ (Int×Int))where
 sk:=⟨[(3,.loc 0 0),(6,.i),(7,.i),(8,.i),(31,.i),(53,.v .bool)],[Kb],[.Za Dd,.cells .i,.deep .i,.cells (.slice .i)],0,4⟩
 p:=fun u=>(r5 u.1 ((q8 u.2.1.1),(u.2.2.1.1,(u.2.2.1.2.1,(u.2.2.1.2.2.1,(u.2.2.1.t3.1,(u.2.2.1.t4.1,(u.2.2.1.t5.1,(u.2.2.1.t6.1,(u.2.2.1.t7.1,(u.2.2.1.t8.1,(u.2.2.1.t9.1,(u.2.2.1.t10.1,(u.2.2.1.t12.1,(u.2.2.1.t13.1,(u.2.2.1.t14.1,(u.2.2.1.t15.1,(u.2.2.1.t16.1,(q3 u.t3)))))))))))))))))))
 st:=fun Y p ke=>cond p.2.2.2.2.1
  (ke (.inl (Ea (p.1 * p.2.1))))
  (cond (decide (p.2.2.2.1=(7:Int)))
  (cond (decide (p.2.1=(0:Int)))
  (ke (.inr ((0,2))))
  (cond (decide (p.2.2.2.2.2.1.1=(8:Int)))
  (cond (decide (p.2.1=(0:Int)))
  (none)
  (ke (.inr (((Int.tmod p.1 p.2.1),0)))))
  ((sj.m (p.1,p.2.1,p.2.2.2.2.2.2)).bind fun e1=>
  cond e1
  (ke (.inr ((0,3))))
  (cond (decide (p.2.1=(0:Int)))
  (none)
  (ke (.inr (((Ea (Int.tdiv p.1 p.2.1)),0))))))))
  (cond (decide (p.2.2.2.1=(8:Int)))
  (cond (decide (p.2.1=(0:Int)))
  (ke (.inr ((0,2))))
  (cond (decide (p.2.2.2.2.2.1.1=(8:Int)))
  (cond (decide (p.2.1=(0:Int)))
  (none)
  (ke (.inr (((Int.tmod p.1 p.2.1),0)))))
  ((sj.m (p.1,p.2.1,p.2.2.2.2.2.2)).bind fun e2=>
  cond e2
  (ke (.inr ((0,3))))
  (cond (decide (p.2.1=(0:Int)))
  (none)
  (ke (.inr (((Ea (Int.tdiv p.1 p.2.1)),0))))))))
  (cond (decide (p.2.2.2.1=(9:Int)))
  (cond (decide (p.1<p.2.1))
  (ke (.inr ((p.1,0))))
  (ke (.inr ((p.2.1,0)))))
  (cond (decide (p.2.2.2.1=(10:Int)))
  (cond (decide (p.2.1<p.1))
  (ke (.inr ((p.1,0))))
  (ke (.inr ((p.2.1,0)))))
  (ke (.inl (p.2.2.1)))))))
 o:=fun Z p e K=>Sum.elim (fun e=>so K (.normal) ⟨[(8,.i)],[],[.Za Dd,.cells .i,.deep .i,.cells (.slice .i)],0,4⟩ ((e,()),(),(Ig p.t6 ((),(r5 p.t17 ((),(),(),())))),p.t22.1,p.t23.1,p.t24,())) (fun e=>so K (.ret) ⟨[(4,.i),(5,.i)],[],[.Za Dd,.cells .i,.deep .i,.cells (.slice .i)],0,4⟩ ((e.1,e.2,()),(),(Ig p.t6 ((),(r5 p.t17 ((),(),(),())))),p.t22.1,p.t23.1,p.t24,())) e
 Kd:=⟨[3,6,7,8,31,53],[],[],[]⟩
 pe:=[(.normal,⟨[8],[],[],[]⟩),(.ret,⟨[4,5],[],[],[]⟩)]
def El:PD (Int×Int×Int×Int×Bool×(Wa×((List Wa)×(Int×(Int×(Int×((List Bb)×((List Xb)×((List Bb)×((List za)×(pG))))))))))) ((Int) ⊕ (Int×Int))where
 sk:=⟨[(3,.loc 0 0),(6,.i),(7,.i),(8,.i),(31,.i),(48,.v .bool)],[Kb],[.Za Dd,.cells .i,.deep .i,.cells (.slice .i)],0,4⟩
 p:=fun u=>(r5 u.1 ((q8 u.2.1.1),(u.2.2.1.1,(u.2.2.1.2.1,(u.2.2.1.2.2.1,(u.2.2.1.t3.1,(u.2.2.1.t4.1,(u.2.2.1.t5.1,(u.2.2.1.t6.1,(u.2.2.1.t7.1,(u.2.2.1.t8.1,(u.2.2.1.t9.1,(u.2.2.1.t10.1,(u.2.2.1.t12.1,(u.2.2.1.t13.1,(u.2.2.1.t14.1,(u.2.2.1.t15.1,(u.2.2.1.t16.1,(q3 u.t3)))))))))))))))))))
 st:=fun Y p ke=>cond p.2.2.2.2.1
  (ke (.inl (Ea (p.1-p.2.1))))
  ((Dl.m (p.1,p.2.1,p.2.2.1,p.2.2.2.1,(decide (p.2.2.2.1=(6:Int))),p.2.2.2.2.2)).bind fun e1=>
  Sum.elim (fun e2=>ke (.inl (e2)))
  (fun e3=>ke (.inr ((e3.1,e3.2)))) e1)
 o:=fun Z p e K=>Sum.elim (fun e=>so K (.normal) ⟨[(8,.i)],[],[.Za Dd,.cells .i,.deep .i,.cells (.slice .i)],0,4⟩ ((e,()),(),(Ig p.t6 ((),(r5 p.t17 ((),(),(),())))),p.t22.1,p.t23.1,p.t24,())) (fun e=>so K (.ret) ⟨[(4,.i),(5,.i)],[],[.Za Dd,.cells .i,.deep .i,.cells (.slice .i)],0,4⟩ ((e.1,e.2,()),(),(Ig p.t6 ((),(r5 p.t17 ((),(),(),())))),p.t22.1,p.t23.1,p.t24,())) e
 Kd:=⟨[3,6,7,8,31,48],[],[],[]⟩
 pe:=[(.normal,⟨[8],[],[],[]⟩),(.ret,⟨[4,5],[],[],[]⟩)]
def Fl:PD (Int×Int×Int×Int×Bool×(Wa×((List Wa)×(Int×(Int×(Int×((List Bb)×((List Xb)×((List Bb)×((List za)×(pG))))))))))) ((Int) ⊕ (Int×Int))where
 sk:=⟨[(3,.loc 0 0),(6,.i),(7,.i),(8,.i),(31,.i),(43,.v .bool)],[Kb],[.Za Dd,.cells .i,.deep .i,.cells (.slice .i)],0,4⟩
 p:=fun u=>(r5 u.1 ((q8 u.2.1.1),(u.2.2.1.1,(u.2.2.1.2.1,(u.2.2.1.2.2.1,(u.2.2.1.t3.1,(u.2.2.1.t4.1,(u.2.2.1.t5.1,(u.2.2.1.t6.1,(u.2.2.1.t7.1,(u.2.2.1.t8.1,(u.2.2.1.t9.1,(u.2.2.1.t10.1,(u.2.2.1.t12.1,(u.2.2.1.t13.1,(u.2.2.1.t14.1,(u.2.2.1.t15.1,(u.2.2.1.t16.1,(q3 u.t3)))))))))))))))))))
 st:=fun Y p ke=>cond p.2.2.2.2.1
  (ke (.inl (Ea (p.1+p.2.1))))
  ((El.m (p.1,p.2.1,p.2.2.1,p.2.2.2.1,(decide (p.2.2.2.1=(5:Int))),p.2.2.2.2.2)).bind fun e1=>
  Sum.elim (fun e2=>ke (.inl (e2)))
  (fun e3=>ke (.inr ((e3.1,e3.2)))) e1)
 o:=fun Z p e K=>Sum.elim (fun e=>so K (.normal) ⟨[(8,.i)],[],[.Za Dd,.cells .i,.deep .i,.cells (.slice .i)],0,4⟩ ((e,()),(),(Ig p.t6 ((),(r5 p.t17 ((),(),(),())))),p.t22.1,p.t23.1,p.t24,())) (fun e=>so K (.ret) ⟨[(4,.i),(5,.i)],[],[.Za Dd,.cells .i,.deep .i,.cells (.slice .i)],0,4⟩ ((e.1,e.2,()),(),(Ig p.t6 ((),(r5 p.t17 ((),(),(),())))),p.t22.1,p.t23.1,p.t24,())) e
 Kd:=⟨[3,6,7,8,31,43],[],[],[]⟩
 pe:=[(.normal,⟨[8],[],[],[]⟩),(.ret,⟨[4,5],[],[],[]⟩)]
def Hl:PD (Int×Int×Int×Int×Bool×(Wa×((List Wa)×(Int×(Int×(Int×((List Bb)×((List Xb)×((List Bb)×((List za)×(pG))))))))))) ((Int) ⊕ (Int×Int))where
 sk:=⟨[(3,.loc 0 0),(6,.i),(7,.i),(8,.i),(31,.i),(36,.v .bool)],[Kb],[.Za Dd,.cells .i,.deep .i,.cells (.slice .i)],0,4⟩
 p:=fun u=>(r5 u.1 ((q8 u.2.1.1),(u.2.2.1.1,(u.2.2.1.2.1,(u.2.2.1.2.2.1,(u.2.2.1.t3.1,(u.2.2.1.t4.1,(u.2.2.1.t5.1,(u.2.2.1.t6.1,(u.2.2.1.t7.1,(u.2.2.1.t8.1,(u.2.2.1.t9.1,(u.2.2.1.t10.1,(u.2.2.1.t12.1,(u.2.2.1.t13.1,(u.2.2.1.t14.1,(u.2.2.1.t15.1,(u.2.2.1.t16.1,(q3 u.t3)))))))))))))))))))
 st:=fun Y p ke=>cond p.2.2.2.2.1
  ((Gl.m (p.1,p.1,(decide (p.1<(0:Int))),p.2.2.2.2.2.2)).bind fun e1=>
  ke (.inl (e1)))
  ((Fl.m (p.1,p.2.1,p.2.2.1,p.2.2.2.1,(decide (p.2.2.2.1=(4:Int))),p.2.2.2.2.2)).bind fun e2=>
  Sum.elim (fun e3=>ke (.inl (e3)))
  (fun e4=>ke (.inr ((e4.1,e4.2)))) e2)
 o:=fun Z p e K=>Sum.elim (fun e=>so K (.normal) ⟨[(8,.i)],[],[.Za Dd,.cells .i,.deep .i,.cells (.slice .i)],0,4⟩ ((e,()),(),(Ig p.t6 ((),(r5 p.t17 ((),(),(),())))),p.t22.1,p.t23.1,p.t24,())) (fun e=>so K (.ret) ⟨[(4,.i),(5,.i)],[],[.Za Dd,.cells .i,.deep .i,.cells (.slice .i)],0,4⟩ ((e.1,e.2,()),(),(Ig p.t6 ((),(r5 p.t17 ((),(),(),())))),p.t22.1,p.t23.1,p.t24,())) e
 Kd:=⟨[3,6,7,8,31,36],[],[],[]⟩
 pe:=[(.normal,⟨[8],[],[],[]⟩),(.ret,⟨[4,5],[],[],[]⟩)]
def Wn:PD (Int×Int×Int×Int×Bool×(Wa×((List Wa)×(Int×(Int×(Int×((List Bb)×((List Xb)×((List Bb)×((List za)×(pG))))))))))) ((Int) ⊕ (Int×Int))where
 sk:=⟨[(3,.loc 0 0),(6,.i),(7,.i),(8,.i),(31,.i),(32,.v .bool)],[Kb],[.Za Dd,.cells .i,.deep .i,.cells (.slice .i)],0,4⟩
 p:=fun u=>(r5 u.1 ((q8 u.2.1.1),(u.2.2.1.1,(u.2.2.1.2.1,(u.2.2.1.2.2.1,(u.2.2.1.t3.1,(u.2.2.1.t4.1,(u.2.2.1.t5.1,(u.2.2.1.t6.1,(u.2.2.1.t7.1,(u.2.2.1.t8.1,(u.2.2.1.t9.1,(u.2.2.1.t10.1,(u.2.2.1.t12.1,(u.2.2.1.t13.1,(u.2.2.1.t14.1,(u.2.2.1.t15.1,(u.2.2.1.t16.1,(q3 u.t3)))))))))))))))))))
 st:=fun Y p ke=>cond p.2.2.2.2.1
  (ke (.inl (Ea ((0:Int)-p.1))))
  ((Hl.m (p.1,p.2.1,p.2.2.1,p.2.2.2.1,(decide (p.2.2.2.1=(3:Int))),p.2.2.2.2.2)).bind fun e1=>
  Sum.elim (fun e2=>ke (.inl (e2)))
  (fun e3=>ke (.inr ((e3.1,e3.2)))) e1)
 o:=fun Z p e K=>Sum.elim (fun e=>so K (.normal) ⟨[(8,.i)],[],[.Za Dd,.cells .i,.deep .i,.cells (.slice .i)],0,4⟩ ((e,()),(),(Ig p.t6 ((),(r5 p.t17 ((),(),(),())))),p.t22.1,p.t23.1,p.t24,())) (fun e=>so K (.ret) ⟨[(4,.i),(5,.i)],[],[.Za Dd,.cells .i,.deep .i,.cells (.slice .i)],0,4⟩ ((e.1,e.2,()),(),(Ig p.t6 ((),(r5 p.t17 ((),(),(),())))),p.t22.1,p.t23.1,p.t24,())) e
 Kd:=⟨[3,6,7,8,31,32],[],[],[]⟩
 pe:=[(.normal,⟨[8],[],[],[]⟩),(.ret,⟨[4,5],[],[],[]⟩)]
def rj:PD (Int×((List Wa)×(Int×(Int×(Int×((List Bb)×((List Xb)×((List Bb)×((List za)×(pG)))))))))) (Bool)where
 sk:=⟨[(8,.i)],[],[.Za Dd,.cells .i,.deep .i,.cells (.slice .i)],0,4⟩
 p:=fun u=>(u.1.1,u.2.2.1.1,(u.2.2.1.2.1,(u.2.2.1.2.2.1,(u.2.2.1.t3.1,(u.2.2.1.t4.1,(u.2.2.1.t5.1,(u.2.2.1.t6.1,(u.2.2.1.t7.1,(u.2.2.1.t8.1,(u.2.2.1.t9.1,(u.2.2.1.t10.1,(u.2.2.1.t12.1,(u.2.2.1.t13.1,(u.2.2.1.t14.1,(u.2.2.1.t15.1,(u.2.2.1.t16.1,(q3 u.t3)))))))))))))))))
 st:=fun Y p ke=>cond (decide (p.1<(-2147483648:Int)))
  (ke (true))
  (ke ((decide ((2147483647:Int)<p.1))))
 o:=fun Z p e K=>so K (.normal) ⟨[(8,.i),(97,.v .bool)],[],[.Za Dd,.cells .i,.deep .i,.cells (.slice .i)],0,4⟩ ((p.1,e,()),(),(Ig p.2 ((),(r5 p.t12 ((),(),(),())))),p.t17.1,p.t18.1,p.t19,())
 Kd:=⟨[8],[],[],[]⟩
 pe:=[(.normal,⟨[8,97],[],[],[]⟩)]
def ir{X:Type}(a:ku)(K:(Int×Int)->Option X):Option X:=
 cond (decide (a.1.1=(1:Int)))
 (K (a.1.2.2.2.2.1,0))
 (ask (V.ja a.1.2.2.1 (da a.2.2.2.2.2.2.2.2.2.2.2.2.2.2.2.2.2.1)) (ask (V.ja a.1.2.2.2.1 (da a.2.2.2.2.2.2.2.2.2.2.2.2.2.2.2.2.2.1)) ((Wn.m ((gx a.2.2.2.2.2.2.2.2.2.2.2.2.2.2.2.2.2.1 (fa a.1.2.2.1) (0:Int)),(gx a.2.2.2.2.2.2.2.2.2.2.2.2.2.2.2.2.2.1 (fa a.1.2.2.2.1) (0:Int)),0,a.1.1,(decide (a.1.1=(2:Int))),a)).bind fun e1=>
 Sum.elim (fun e2=>(rj.m (e2,a.2)).bind fun e3=>
 cond e3
 (K (0,1))
 (K (e2,0)))
 (fun e4=>K (e4.1,e4.2)) e1)))
def Bl:=fun a=>ir a some
def tU:Spec:=RK.sp Bl
noncomputable def Dc:Env:=eE [1000008,1000010,1000012,1000014,1000016,1000018,2000025,2000036] (mb []) (qL 1000012 Gl.q (qL 2000025 sj.q (qL 1000018 Dl.q (qL 1000016 El.q (qL 1000014 Fl.q (qL 1000010 Hl.q (qL 1000008 Wn.q (qL 2000036 rj.q qN))))))))
theorem RD:LS C Dc true [3] 99 (pc [1,1,1,1,1,0,1,0,1,1,1,0,1,1] Tryz.f131):=fun hc=>
 pN (n':=fun p=>((r3 p ()),(),(Ig p.t3 ((),(r5 p.t14 ((),(),(),())))),p.t19.1,p.t20.1,p.t21,())) (Zd:=⟨uh Dc.join 1000012,Dc.call,Dc.loop⟩) hc rfl Gl (by intros;simp only[Gl,PD.m,nn])
theorem MD:LS C Dc true [3] 99 (pc [1,1,1,1,1,0,1,0,1,1,1,1,1,1,1,1,1,1,1,0,1,1,0,0] Tryz.f131):=fun hc=>
 pN (n':=fun p=>((p.1,p.2.1,()),(),(Ig p.2.2 ((),(r5 p.t13 ((),(),(),())))),p.t18.1,p.t19.1,p.t20,())) (Zd:=⟨uh Dc.join 2000025,Dc.call,Dc.loop⟩) hc rfl sj (by intros;simp only[sj,PD.m,nn])
theorem ND:LS C Dc true [3] 99 (pc [1,1,1,1,1,0,1,0,1,1,1,1,1,1,1,1,1] Tryz.f131):=fun hc=>
 pN (n':=fun p=>((r5 p ()),((r7 p.t5.1 (p.t5.1.t7,())),()),(Ig p.t6 ((),(r5 p.t17 ((),(),(),())))),p.t22.1,p.t23.1,p.t24,())) (Zd:=⟨uh Dc.join 1000018,Dc.call,Dc.loop⟩) hc rfl Dl (by intros;simp only[Dl,PD.m,nn]) (hl:=(nc (by kernel_rfl) (Va (MD hc) Mb)))
theorem OD:LS C Dc true [3] 99 (pc [1,1,1,1,1,0,1,0,1,1,1,1,1,1,1] Tryz.f131):=fun hc=>
 pN (n':=fun p=>((r5 p ()),((r7 p.t5.1 (p.t5.1.t7,())),()),(Ig p.t6 ((),(r5 p.t17 ((),(),(),())))),p.t22.1,p.t23.1,p.t24,())) (Zd:=⟨uh Dc.join 1000016,Dc.call,Dc.loop⟩) hc rfl El (by intros;simp only[El,PD.m,nn]) (hl:=(nc (by kernel_rfl) (Va (ND hc) Mb)))
theorem QD:LS C Dc true [3] 99 (pc [1,1,1,1,1,0,1,0,1,1,1,1,1] Tryz.f131):=fun hc=>
 pN (n':=fun p=>((r5 p ()),((r7 p.t5.1 (p.t5.1.t7,())),()),(Ig p.t6 ((),(r5 p.t17 ((),(),(),())))),p.t22.1,p.t23.1,p.t24,())) (Zd:=⟨uh Dc.join 1000014,Dc.call,Dc.loop⟩) hc rfl Fl (by intros;simp only[Fl,PD.m,nn]) (hl:=(nc (by kernel_rfl) (Va (OD hc) Mb)))
theorem SD:LS C Dc true [3] 99 (pc [1,1,1,1,1,0,1,0,1,1,1] Tryz.f131):=fun hc=>
 pN (n':=fun p=>((r5 p ()),((r7 p.t5.1 (p.t5.1.t7,())),()),(Ig p.t6 ((),(r5 p.t17 ((),(),(),())))),p.t22.1,p.t23.1,p.t24,())) (Zd:=⟨uh Dc.join 1000010,Dc.call,Dc.loop⟩) hc rfl Hl (by intros;simp only[Hl,PD.m,nn]) (hl:=(nc (by kernel_rfl) (Va (RD hc) (Va (QD hc) Mb))))
theorem kI:LS C Dc true [3] 99 (pc [1,1,1,1,1,0,1,0,1] Tryz.f131):=fun hc=>
 pN (n':=fun p=>((r5 p ()),((r7 p.t5.1 (p.t5.1.t7,())),()),(Ig p.t6 ((),(r5 p.t17 ((),(),(),())))),p.t22.1,p.t23.1,p.t24,())) (Zd:=⟨uh Dc.join 1000008,Dc.call,Dc.loop⟩) hc rfl Wn (by intros;simp only[Wn,PD.m,nn]) (hl:=(nc (by kernel_rfl) (Va (SD hc) Mb)))
theorem KD:LS C Dc true [3] 99 (pc [1,1,1,1,1,1,0,0] Tryz.f131):=fun hc=>
 pN (n':=fun p=>((p.1,()),(),(Ig p.2 ((),(r5 p.t12 ((),(),(),())))),p.t17.1,p.t18.1,p.t19,())) (Zd:=⟨uh Dc.join 2000036,Dc.call,Dc.loop⟩) hc rfl rj (by intros;simp only[rj,PD.m,nn])
theorem uU:OK (1) 131 (RK.sp Bl):=
 fO (d:=0) (env:=Dc) (Da cn) (fn:=Tryz.f131) (mc:=@ir) (by intros;simp only[Bl,ir,nn]) (Fa:=[3]) (hl:=fun hc=>(nc (by kernel_rfl) (Va (kI hc) (Va (KD hc) Mb))))
def YK:FS (T4) ((Y44) ⊕ (Y45))where
 sk:=⟨(.cons (.ptr 0 0) .nil),[.Za Dd,.cells .i,.deep .i,.cells (.slice .i)],0⟩
 a:=fun u=>(Ig u.2.1 (r5 u.2.1.t12 (u.2.2.1,u.t3.1,u.t4.1)))
 o:=fun Z a r K=>Sum.elim (fun e=>kv K (.Qc .nil) [.Za Dd,.cells .i,.deep .i,.cells (.slice .i)] 0 () ((r9 a (e.1,a.t10.1,(),(r3 e.2 (a.t14.1,e.t4,(),(),(),())))),a.t16.1,a.t17.1,a.t18,())) (fun e=>kv K (.Qc .nil) [.Za IJ,.cells .i,.deep .i,.dead,.cells (.slice .i)] 0 () ((r9 a (e.1,e.2.1,(),e.2.2.1,a.t12.1,a.t13.1,e.t3.1,e.t4.1,(),(),(),())),e.t5.1,e.t6.1,(),e.t7,())) r
def Nl:PD (Int×Int×Nat×(Wa×((List Wa)×(Int×(Int×(Int×((List Bb)×((List Xb)×((List Bb)×((List za)×(pG))))))))))) (Bool)where
 sk:=⟨[(0,.p 0 0),(2,.loc 0 0),(3,.i),(4,.i),(5,.v (.Qp 2))],[Kb],[.Za Dd,.cells .i,.deep .i,.cells (.slice .i)],0,4⟩
 p:=fun u=>(r3 u.1.2 ((q8 u.2.1.1),(u.2.2.1.1,(u.2.2.1.2.1,(u.2.2.1.2.2.1,(u.2.2.1.t3.1,(u.2.2.1.t4.1,(u.2.2.1.t5.1,(u.2.2.1.t6.1,(u.2.2.1.t7.1,(u.2.2.1.t8.1,(u.2.2.1.t9.1,(u.2.2.1.t10.1,(u.2.2.1.t12.1,(u.2.2.1.t13.1,(u.2.2.1.t14.1,(u.2.2.1.t15.1,(u.2.2.1.t16.1,(q3 u.t3)))))))))))))))))))
 st:=fun Y p ke=>cond (decide (p.2.1<(0:Int)))
  (ke (true))
  (ke ((decide ((nt (da (gx p.2.2.2.2.2.2.2.2.2.2.2.2.2.2.2.2.2.2.2.2.2.1 p.2.2.1 [])))<=p.2.1))))
 o:=fun Z p e K=>so K (.normal) ⟨[(0,.p 0 0),(2,.loc 0 0),(3,.i),(4,.i),(5,.v (.Qp 2)),(73,.v .bool)],[Kb],[.Za Dd,.cells .i,.deep .i,.cells (.slice .i)],0,4⟩ (((),(r3 p (e,()))),((r7 p.t3.1 (p.t3.1.t7,())),()),(Ig p.t4 ((),(r5 p.t15 ((),(),(),())))),p.t20.1,p.t21.1,p.t22,())
 Kd:=⟨[0,2,3,4,5],[],[],[]⟩
 pe:=[(.normal,⟨[0,2,3,4,5,73],[],[],[]⟩)]
def Ml:PD (Int×Int×Wa×(List Wa)×Int×Int×Int×(List Bb)×(List Xb)×(List Bb)×(List za)×(List Int)×Int×Int×Int×Int×Int×Int×Int×((List Int)×(Y50))) (Bool)where
 sk:=⟨[(0,.p 0 0),(2,.loc 0 0),(3,.i),(6,.i)],[Kb],[.Za Dd,.cells .i,.deep .i,.cells (.slice .i)],0,4⟩
 p:=fun u=>(u.1.2.1,u.1.2.2.1,(q8 u.2.1.1),(Ig u.2.2.1 (r5 u.2.2.1.t12 (q3 u.t3))))
 st:=fun Y p ke=>ask (V.ja p.2.2.1.2.2.1 (da p.2.2.2.2.2.2.2.1)) (cond (decide (p.2.1<(gx p.2.2.2.2.2.2.2.1 (fa p.2.2.1.2.2.1) fb).2.2.1))
  (ke (true))
  (ask (V.ja p.2.2.1.2.2.1 (da p.2.2.2.2.2.2.2.1)) (ke ((decide ((gx p.2.2.2.2.2.2.2.1 (fa p.2.2.1.2.2.1) fb).2.2.2<p.2.1))))))
 o:=fun Z p e K=>so K (.normal) ⟨[(0,.p 0 0),(2,.loc 0 0),(3,.i),(6,.i),(150,.v .bool)],[Kb],[.Za Dd,.cells .i,.deep .i,.cells (.slice .i)],0,4⟩ (((),p.1,p.2.1,e,()),((r7 p.2.2.1 (p.2.2.1.t7,())),()),(Ig p.t3 ((),(r5 p.t14 ((),(),(),())))),p.t19.1,p.t20.1,p.t21,())
 Kd:=⟨[0,2,3,6],[],[],[]⟩
 pe:=[(.normal,⟨[0,2,3,6,150],[],[],[]⟩)]
def Ll:PD (Int×Int×Nat×(Wa×((List Wa)×(Int×(Int×(Int×((List Bb)×((List Xb)×((List Bb)×((List za)×(pG))))))))))) (Bool)where
 sk:=⟨[(0,.p 0 0),(2,.loc 0 0),(3,.i),(7,.i),(8,.v (.Qp 2))],[Kb],[.Za Dd,.cells .i,.deep .i,.cells (.slice .i)],0,4⟩
 p:=fun u=>(r3 u.1.2 ((q8 u.2.1.1),(u.2.2.1.1,(u.2.2.1.2.1,(u.2.2.1.2.2.1,(u.2.2.1.t3.1,(u.2.2.1.t4.1,(u.2.2.1.t5.1,(u.2.2.1.t6.1,(u.2.2.1.t7.1,(u.2.2.1.t8.1,(u.2.2.1.t9.1,(u.2.2.1.t10.1,(u.2.2.1.t12.1,(u.2.2.1.t13.1,(u.2.2.1.t14.1,(u.2.2.1.t15.1,(u.2.2.1.t16.1,(q3 u.t3)))))))))))))))))))
 st:=fun Y p ke=>cond (decide (p.2.1<(0:Int)))
  (ke (true))
  (ke ((decide ((nt (da (gx p.2.2.2.2.2.2.2.2.2.2.2.2.2.2.2.2.2.2.2.2.2.1 p.2.2.1 [])))<=p.2.1))))
 o:=fun Z p e K=>so K (.normal) ⟨[(0,.p 0 0),(2,.loc 0 0),(3,.i),(7,.i),(8,.v (.Qp 2)),(229,.v .bool)],[Kb],[.Za Dd,.cells .i,.deep .i,.cells (.slice .i)],0,4⟩ (((),(r3 p (e,()))),((r7 p.t3.1 (p.t3.1.t7,())),()),(Ig p.t4 ((),(r5 p.t15 ((),(),(),())))),p.t20.1,p.t21.1,p.t22,())
 Kd:=⟨[0,2,3,7,8],[],[],[]⟩
 pe:=[(.normal,⟨[0,2,3,7,8,229],[],[],[]⟩)]
def Ql:PD (Int×Bool×(Wa×((List Wa)×(Int×(Int×(Int×((List Bb)×((List Xb)×((List Bb)×((List za)×(pG))))))))))) (Int)where
 sk:=⟨[(0,.p 0 0),(2,.loc 0 0),(3,.i),(272,.v .bool)],[Kb],[.Za Dd,.cells .i,.deep .i,.cells (.slice .i)],0,4⟩
 p:=fun u=>(u.1.2.1,u.1.2.2.1,(q8 u.2.1.1),(u.2.2.1.1,(u.2.2.1.2.1,(u.2.2.1.2.2.1,(u.2.2.1.t3.1,(u.2.2.1.t4.1,(u.2.2.1.t5.1,(u.2.2.1.t6.1,(u.2.2.1.t7.1,(u.2.2.1.t8.1,(u.2.2.1.t9.1,(u.2.2.1.t10.1,(u.2.2.1.t12.1,(u.2.2.1.t13.1,(u.2.2.1.t14.1,(u.2.2.1.t15.1,(u.2.2.1.t16.1,(q3 u.t3))))))))))))))))))
 st:=fun Y p ke=>cond p.2.1
  (ke (p.2.2.1.2.2.2.2.2.2.2))
  (ke (p.1))
 o:=fun Z p e K=>so K (.normal) ⟨[(0,.p 0 0),(3,.i)],[],[.Za Dd,.cells .i,.deep .i,.cells (.slice .i)],0,4⟩ (((),e,()),(),(Ig p.t3 ((),(r5 p.t14 ((),(),(),())))),p.t19.1,p.t20.1,p.t21,())
 Kd:=⟨[0,2,3,272],[],[],[]⟩
 pe:=[(.normal,⟨[0,3],[],[],[]⟩)]
def Kl:PD (Int×((List Wa)×(Int×(Int×(Int×((List Bb)×((List Xb)×((List Bb)×((List za)×(pG)))))))))) (Bool)where
 sk:=⟨[(0,.p 0 0),(3,.i)],[],[.Za Dd,.cells .i,.deep .i,.cells (.slice .i)],0,4⟩
 p:=fun u=>(u.1.2.1,u.2.2.1.1,(u.2.2.1.2.1,(u.2.2.1.2.2.1,(u.2.2.1.t3.1,(u.2.2.1.t4.1,(u.2.2.1.t5.1,(u.2.2.1.t6.1,(u.2.2.1.t7.1,(u.2.2.1.t8.1,(u.2.2.1.t9.1,(u.2.2.1.t10.1,(u.2.2.1.t12.1,(u.2.2.1.t13.1,(u.2.2.1.t14.1,(u.2.2.1.t15.1,(u.2.2.1.t16.1,(q3 u.t3)))))))))))))))))
 st:=fun Y p ke=>cond (!(decide (p.2.2.2.2.1=(0:Int))))
  (ke ((decide (p.2.2.2.2.2.2.2.2.2.2.2.2.2.2.2.1=p.2.2.2.2.1))))
  (ke (false))
 o:=fun Z p e K=>so K (.normal) ⟨[(0,.p 0 0),(3,.i),(299,.v .bool)],[],[.Za Dd,.cells .i,.deep .i,.cells (.slice .i)],0,4⟩ (((),p.1,e,()),(),(Ig p.2 ((),(r5 p.t12 ((),(),(),())))),p.t17.1,p.t18.1,p.t19,())
 Kd:=⟨[0,3],[],[],[]⟩
 pe:=[(.normal,⟨[0,3,299],[],[],[]⟩)]
def Ol:PD (Int×Bool×(List Wa)×Int×Int×Int×(List Bb)×(List Xb)×(List Bb)×(List za)×(List Int)×Int×Int×Int×(Int×(Int×(Int×(Int×((List Int)×(Y50))))))) (((List (List Int))) ⊕ (Unit))where
 sk:=⟨[(0,.p 0 0),(3,.i),(313,.v .bool)],[],[.Za Dd,.cells .i,.deep .i,.cells (.slice .i)],0,4⟩
 p:=fun u=>(u.1.2.1,u.1.2.2.1,(Ig u.2.2.1 (u.2.2.1.t12.1,u.2.2.1.t13.1,(u.2.2.1.t14.1,(u.2.2.1.t15.1,(u.2.2.1.t16.1,(q3 u.t3)))))))
 st:=fun Y p ke=>cond p.2.1
  ((Xn (p.2.2.1,p.2.2.2.1,p.2.2.2.2.1,p.2.2.2.2.2.1,p.2.2.2.2.2.2.1,p.2.2.2.2.2.2.2.1,p.2.2.2.2.2.2.2.2.1,p.2.2.2.2.2.2.2.2.2.1,p.2.2.2.2.2.2.2.2.2.2.1,p.2.2.2.2.2.2.2.2.2.2.2.1,p.2.2.2.2.2.2.2.2.2.2.2.2.1,p.2.2.2.2.2.2.2.2.2.2.2.2.2.1,p.2.2.2.2.2.2.2.2.2.2.2.2.2.2.1,p.2.2.2.2.2.2.2.2.2.2.2.2.2.2.2.1,p.2.2.2.2.2.2.2.2.2.2.2.2.2.2.2.2.1,p.2.2.2.2.2.2.2.2.2.2.2.2.2.2.2.2.2.1,p.2.2.2.2.2.2.2.2.2.2.2.2.2.2.2.2.2.2.1,p.2.2.2.2.2.2.2.2.2.2.2.2.2.2.2.2.2.2.2.1,p.2.2.2.2.2.2.2.2.2.2.2.2.2.2.2.2.2.2.2.2)).bind fun r1=>
  ask (decide (((da p.2.2.2.2.2.2.2.2.2.2.2.2.2.2.2.2.2.2.2.2)+(da ([r1]:List (List Int)))) * 24<=70368744177664)&&decide (((da p.2.2.2.2.2.2.2.2.2.2.2.2.2.2.2.2.2.2.2.2)+(da ([r1]:List (List Int))))<9223372036854775808)) (ke (.inl (p.2.2.2.2.2.2.2.2.2.2.2.2.2.2.2.2.2.2.2.2++([r1]:List (List Int))))))
  (ke (.inr (())))
 o:=fun Z p e K=>Sum.elim (fun e=>so K (.normal) ⟨[(0,.p 0 0),(3,.i)],[],[.Za IJ,.cells .i,.deep .i,.dead,.cells (.slice .i)],0,4⟩ (((),p.1,()),(),(Ig p.2.2 ((),(r5 p.t13 ((),(),(),())))),p.t18.1,p.t19.1,(),e,())) (fun e=>so K (.normal) ⟨[(0,.p 0 0),(3,.i)],[],[.Za Dd,.cells .i,.deep .i,.cells (.slice .i)],0,4⟩ (((),p.1,()),(),(Ig p.2.2 ((),(r5 p.t13 ((),(),(),())))),p.t18.1,p.t19.1,p.t20,())) e
 Kd:=⟨[0,3,313],[],[],[]⟩
 pe:=[(.normal,⟨[0,3],[],[],[]⟩)]
def Pe:PD (Int×Int×Bool×(Wa×((List Wa)×(Int×(Int×(Int×((List Bb)×((List Xb)×((List Bb)×((List za)×(pG))))))))))) ((Y46) ⊕ (Y14))where
 sk:=⟨[(0,.p 0 0),(2,.loc 0 0),(3,.i),(26,.i),(338,.v .bool)],[Kb],[.Za Dd,.cells .i,.deep .i,.cells (.slice .i)],0,4⟩
 p:=fun u=>(r3 u.1.2 ((q8 u.2.1.1),(u.2.2.1.1,(u.2.2.1.2.1,(u.2.2.1.2.2.1,(u.2.2.1.t3.1,(u.2.2.1.t4.1,(u.2.2.1.t5.1,(u.2.2.1.t6.1,(u.2.2.1.t7.1,(u.2.2.1.t8.1,(u.2.2.1.t9.1,(u.2.2.1.t10.1,(u.2.2.1.t12.1,(u.2.2.1.t13.1,(u.2.2.1.t14.1,(u.2.2.1.t15.1,(u.2.2.1.t16.1,(q3 u.t3)))))))))))))))))))
 st:=fun Y p ke=>cond p.2.2.1
  ((Il (p.2.2.2.2.1,p.2.2.2.2.2.1,p.2.2.2.2.2.2.1,p.2.2.2.2.2.2.2.1,p.2.2.2.2.2.2.2.2.1,p.2.2.2.2.2.2.2.2.2.1,p.2.2.2.2.2.2.2.2.2.2.1,p.2.2.2.2.2.2.2.2.2.2.2.1,p.2.2.2.2.2.2.2.2.2.2.2.2.1,p.2.2.2.2.2.2.2.2.2.2.2.2.2.1,p.2.2.2.2.2.2.2.2.2.2.2.2.2.2.1,p.2.2.2.2.2.2.2.2.2.2.2.2.2.2.2.1,p.2.2.2.2.2.2.2.2.2.2.2.2.2.2.2.2.1,p.2.2.2.2.2.2.2.2.2.2.2.2.2.2.2.2.2.1,p.2.2.2.2.2.2.2.2.2.2.2.2.2.2.2.2.2.2.1,p.2.2.2.2.2.2.2.2.2.2.2.2.2.2.2.2.2.2.2.1,p.2.2.2.2.2.2.2.2.2.2.2.2.2.2.2.2.2.2.2.2.1,p.2.2.2.2.2.2.2.2.2.2.2.2.2.2.2.2.2.2.2.2.2.1,p.2.2.2.2.2.2.2.2.2.2.2.2.2.2.2.2.2.2.2.2.2.2)).bind fun r1=>
  cond (!r1.1)
  (ke (.inl (r1.2.1,r1.2.2,p.2.2.2.2.2.2.2.2.2.2.2.2.2.2.2.2.1,p.2.2.2.2.2.2.2.2.2.2.2.2.2.2.2.2.2.1)))
  (ke (.inr ((r1.2.1,r1.2.2,p.2.2.2.2.2.2.2.2.2.2.2.2.2.2.2.2.2.2.2.2.1)))))
  (cond (decide (p.2.1=(21:Int)))
  (ke (.inl (p.2.2.2.2.2.2.2.2.2.2.2.2.2.1,1,p.2.2.2.1.2.2.2.2.2.1,5)))
  ((Bl (p.2.2.2.1,p.2.2.2.2.1,p.2.2.2.2.2.1,p.2.2.2.2.2.2.1,p.2.2.2.2.2.2.2.1,p.2.2.2.2.2.2.2.2.1,p.2.2.2.2.2.2.2.2.2.1,p.2.2.2.2.2.2.2.2.2.2.1,p.2.2.2.2.2.2.2.2.2.2.2.1,p.2.2.2.2.2.2.2.2.2.2.2.2.1,p.2.2.2.2.2.2.2.2.2.2.2.2.2.1,p.2.2.2.2.2.2.2.2.2.2.2.2.2.2.1,p.2.2.2.2.2.2.2.2.2.2.2.2.2.2.2.1,p.2.2.2.2.2.2.2.2.2.2.2.2.2.2.2.2.1,p.2.2.2.2.2.2.2.2.2.2.2.2.2.2.2.2.2.1,p.2.2.2.2.2.2.2.2.2.2.2.2.2.2.2.2.2.2.1,p.2.2.2.2.2.2.2.2.2.2.2.2.2.2.2.2.2.2.2.1,p.2.2.2.2.2.2.2.2.2.2.2.2.2.2.2.2.2.2.2.2.1,p.2.2.2.2.2.2.2.2.2.2.2.2.2.2.2.2.2.2.2.2.2.1,p.2.2.2.2.2.2.2.2.2.2.2.2.2.2.2.2.2.2.2.2.2.2)).bind fun r2=>
  cond (!(decide (r2.2=(0:Int))))
  (ke (.inl (p.2.2.2.2.2.2.2.2.2.2.2.2.2.1,1,p.2.2.2.1.2.2.2.2.2.1,r2.2)))
  (ask (V.ja p.2.2.2.1.2.1 (da p.2.2.2.2.2.2.2.2.2.2.2.2.2.2.2.2.2.2.2.2.1)) (ke (.inr ((p.2.2.2.2.2.2.2.2.2.2.2.2.2.1,p.2.2.2.2.2.2.2.2.2.2.2.2.2.2.2.1,(Oa p.2.2.2.2.2.2.2.2.2.2.2.2.2.2.2.2.2.2.2.2.1 (fa p.2.2.2.1.2.1) r2.1))))))))
 o:=fun Z p e K=>Sum.elim (fun e=>so K (.ret) ⟨[],[],[.Za Dd,.cells .i,.deep .i,.cells (.slice .i)],0,4⟩ ((),(),(r9 p.t4 (e.1,p.t14.1,(),e.2.1,e.2.2.1,e.t3,p.t18.1,p.t19.1,(),(),(),())),p.t20.1,p.t21.1,p.t22,())) (fun e=>so K (.normal) ⟨[(0,.p 0 0),(3,.i)],[],[.Za Dd,.cells .i,.deep .i,.cells (.slice .i)],0,4⟩ (((),p.1,()),(),(r9 p.t4 (e.1,p.t14.1,(),e.2.1,(r4 p.t16 ((),(),(),())))),e.2.2,p.t21.1,p.t22,())) e
 Kd:=⟨[0,2,3,26,338],[],[],[]⟩
 pe:=[(.ret,⟨[],[],[],[]⟩),(.normal,⟨[0,3],[],[],[]⟩)]
def Mh:PD (Int×Int×Bool×(Wa×((List Wa)×(Int×(Int×(Int×((List Bb)×((List Xb)×((List Bb)×((List za)×(pG))))))))))) ((oD) ⊕ (Y46))where
 sk:=⟨[(0,.p 0 0),(2,.loc 0 0),(3,.i),(26,.i),(327,.v .bool)],[Kb],[.Za Dd,.cells .i,.deep .i,.cells (.slice .i)],0,4⟩
 p:=fun u=>(r3 u.1.2 ((q8 u.2.1.1),(u.2.2.1.1,(u.2.2.1.2.1,(u.2.2.1.2.2.1,(u.2.2.1.t3.1,(u.2.2.1.t4.1,(u.2.2.1.t5.1,(u.2.2.1.t6.1,(u.2.2.1.t7.1,(u.2.2.1.t8.1,(u.2.2.1.t9.1,(u.2.2.1.t10.1,(u.2.2.1.t12.1,(u.2.2.1.t13.1,(u.2.2.1.t14.1,(u.2.2.1.t15.1,(u.2.2.1.t16.1,(q3 u.t3)))))))))))))))))))
 st:=fun Y p ke=>cond p.2.2.1
  (ke (.inl (p.2.2.2.2.2.2.2.2.2.2.2.2.2.1,p.2.2.2.2.2.2.2.2.2.2.2.2.2.2.2.1,(Ea (p.2.2.2.2.2.2.2.2.2.2.2.2.2.2.2.2.2.2.1+(1:Int))),p.2.2.2.2.2.2.2.2.2.2.2.2.2.2.2.2.2.2.2.2.1)))
  ((Pe.m (p.1,p.2.1,(decide (p.2.1=(20:Int))),p.2.2.2)).bind fun e1=>
  Sum.elim (fun e2=>ke (.inr ((e2.1,e2.2.1,e2.2.2.1,e2.2.2.2))))
  (fun e3=>ke (.inl (e3.1,e3.2.1,p.2.2.2.2.2.2.2.2.2.2.2.2.2.2.2.2.2.2.1,e3.2.2))) e1)
 o:=fun Z p e K=>Sum.elim (fun e=>so K (.normal) ⟨[(0,.p 0 0),(3,.i)],[],[.Za Dd,.cells .i,.deep .i,.cells (.slice .i)],0,4⟩ (((),p.1,()),(),(r9 p.t4 (e.1,p.t14.1,(),e.2.1,p.t16.1,p.t17.1,e.2.2.1,p.t19.1,(),(),(),())),e.t3,p.t21.1,p.t22,())) (fun e=>so K (.ret) ⟨[],[],[.Za Dd,.cells .i,.deep .i,.cells (.slice .i)],0,4⟩ ((),(),(r9 p.t4 (e.1,p.t14.1,(),e.2.1,e.2.2.1,e.t3,p.t18.1,p.t19.1,(),(),(),())),p.t20.1,p.t21.1,p.t22,())) e
 Kd:=⟨[0,2,3,26,327],[],[],[]⟩
 pe:=[(.normal,⟨[0,3],[],[],[]⟩),(.ret,⟨[],[],[],[]⟩)]
def ee:PD (Int×Int×Bool×(Wa×((List Wa)×(Int×(Int×(Int×((List Bb)×((List Xb)×((List Bb)×((List za)×(pG))))))))))) ((Y46) ⊕ ((Y17) ⊕ (oD)))where
 sk:=⟨[(0,.p 0 0),(2,.loc 0 0),(3,.i),(26,.i),(279,.v .bool)],[Kb],[.Za Dd,.cells .i,.deep .i,.cells (.slice .i)],0,4⟩
 p:=fun u=>(r3 u.1.2 ((q8 u.2.1.1),(u.2.2.1.1,(u.2.2.1.2.1,(u.2.2.1.2.2.1,(u.2.2.1.t3.1,(u.2.2.1.t4.1,(u.2.2.1.t5.1,(u.2.2.1.t6.1,(u.2.2.1.t7.1,(u.2.2.1.t8.1,(u.2.2.1.t9.1,(u.2.2.1.t10.1,(u.2.2.1.t12.1,(u.2.2.1.t13.1,(u.2.2.1.t14.1,(u.2.2.1.t15.1,(u.2.2.1.t16.1,(q3 u.t3)))))))))))))))))))
 st:=fun Y p ke=>cond p.2.2.1
  ((Kl.m (p.1,p.2.2.2.2)).bind fun e1=>
  cond e1
  (ke (.inl (p.2.2.2.2.2.2.2.2.2.2.2.2.2.1,3,p.2.2.2.2.2.2.2.2.2.2.2.2.2.2.2.2.1,p.2.2.2.2.2.2.2.2.2.2.2.2.2.2.2.2.2.1)))
  ((Il (p.2.2.2.2.1,p.2.2.2.2.2.1,p.2.2.2.2.2.2.1,p.2.2.2.2.2.2.2.1,p.2.2.2.2.2.2.2.2.1,p.2.2.2.2.2.2.2.2.2.1,p.2.2.2.2.2.2.2.2.2.2.1,p.2.2.2.2.2.2.2.2.2.2.2.1,p.2.2.2.2.2.2.2.2.2.2.2.2.1,p.2.2.2.2.2.2.2.2.2.2.2.2.2.1,p.2.2.2.2.2.2.2.2.2.2.2.2.2.2.1,p.2.2.2.2.2.2.2.2.2.2.2.2.2.2.2.1,p.2.2.2.2.2.2.2.2.2.2.2.2.2.2.2.2.1,p.2.2.2.2.2.2.2.2.2.2.2.2.2.2.2.2.2.1,p.2.2.2.2.2.2.2.2.2.2.2.2.2.2.2.2.2.2.1,p.2.2.2.2.2.2.2.2.2.2.2.2.2.2.2.2.2.2.2.1,p.2.2.2.2.2.2.2.2.2.2.2.2.2.2.2.2.2.2.2.2.1,p.2.2.2.2.2.2.2.2.2.2.2.2.2.2.2.2.2.2.2.2.2.1,p.2.2.2.2.2.2.2.2.2.2.2.2.2.2.2.2.2.2.2.2.2.2)).bind fun r2=>
  cond (!r2.1)
  (ke (.inl (r2.2.1,r2.2.2,p.2.2.2.2.2.2.2.2.2.2.2.2.2.2.2.2.1,p.2.2.2.2.2.2.2.2.2.2.2.2.2.2.2.2.2.1)))
  ((Ol.m (p.1,(decide ((nt (da p.2.2.2.2.2.2.2.2.2.2.2.2.2.2.2.2.2.2.2.2.2.2))<(64:Int))),p.2.2.2.2.1,p.2.2.2.2.2.1,p.2.2.2.2.2.2.1,p.2.2.2.2.2.2.2.1,p.2.2.2.2.2.2.2.2.1,p.2.2.2.2.2.2.2.2.2.1,p.2.2.2.2.2.2.2.2.2.2.1,p.2.2.2.2.2.2.2.2.2.2.2.1,p.2.2.2.2.2.2.2.2.2.2.2.2.1,r2.2.1,p.2.2.2.2.2.2.2.2.2.2.2.2.2.2.1,r2.2.2,p.2.2.2.2.2.2.2.2.2.2.2.2.2.2.2.2)).bind fun e3=>
  Sum.elim (fun e4=>ke (.inr (.inl (r2.2.1,r2.2.2,e4))))
  (fun e5=>ke (.inr (.inr ((r2.2.1,r2.2.2,p.2.2.2.2.2.2.2.2.2.2.2.2.2.2.2.2.2.2.1,p.2.2.2.2.2.2.2.2.2.2.2.2.2.2.2.2.2.2.2.2.1))))) e3)))
  ((Mh.m (p.1,p.2.1,(decide (p.2.1=(18:Int))),p.2.2.2)).bind fun e6=>
  Sum.elim (fun e7=>ke (.inr (.inr ((e7.1,e7.2.1,e7.2.2.1,e7.2.2.2)))))
  (fun e8=>ke (.inl (e8.1,e8.2.1,e8.2.2.1,e8.2.2.2))) e6)
 o:=fun Z p e K=>Sum.elim (fun e=>so K (.ret) ⟨[],[],[.Za Dd,.cells .i,.deep .i,.cells (.slice .i)],0,4⟩ ((),(),(r9 p.t4 (e.1,p.t14.1,(),e.2.1,e.2.2.1,e.t3,p.t18.1,p.t19.1,(),(),(),())),p.t20.1,p.t21.1,p.t22,())) (fun e=>Sum.elim (fun e=>so K (.normal) ⟨[(0,.p 0 0),(3,.i)],[],[.Za IJ,.cells .i,.deep .i,.dead,.cells (.slice .i)],0,4⟩ (((),p.1,()),(),(r9 p.t4 (e.1,p.t14.1,(),e.2.1,(r4 p.t16 ((),(),(),())))),p.t20.1,p.t21.1,(),e.2.2,())) (fun e=>so K (.normal) ⟨[(0,.p 0 0),(3,.i)],[],[.Za Dd,.cells .i,.deep .i,.cells (.slice .i)],0,4⟩ (((),p.1,()),(),(r9 p.t4 (e.1,p.t14.1,(),e.2.1,p.t16.1,p.t17.1,e.2.2.1,p.t19.1,(),(),(),())),e.t3,p.t21.1,p.t22,())) e) e
 Kd:=⟨[0,2,3,26,279],[],[],[]⟩
 pe:=[(.ret,⟨[],[],[],[]⟩),(.normal,⟨[0,3],[],[],[]⟩)]
def gf:PD (Int×Int×Bool×(Wa×((List Wa)×(Int×(Int×(Int×((List Bb)×((List Xb)×((List Bb)×((List za)×(pG))))))))))) ((Y47) ⊕ (Y46))where
 sk:=⟨[(0,.p 0 0),(2,.loc 0 0),(3,.i),(26,.i),(267,.v .bool)],[Kb],[.Za Dd,.cells .i,.deep .i,.cells (.slice .i)],0,4⟩
 p:=fun u=>(r3 u.1.2 ((q8 u.2.1.1),(u.2.2.1.1,(u.2.2.1.2.1,(u.2.2.1.2.2.1,(u.2.2.1.t3.1,(u.2.2.1.t4.1,(u.2.2.1.t5.1,(u.2.2.1.t6.1,(u.2.2.1.t7.1,(u.2.2.1.t8.1,(u.2.2.1.t9.1,(u.2.2.1.t10.1,(u.2.2.1.t12.1,(u.2.2.1.t13.1,(u.2.2.1.t14.1,(u.2.2.1.t15.1,(u.2.2.1.t16.1,(q3 u.t3)))))))))))))))))))
 st:=fun Y p ke=>cond p.2.2.1
  ((Yn (p.2.2.2.1,p.2.2.2.2.1,p.2.2.2.2.2.1,p.2.2.2.2.2.2.1,p.2.2.2.2.2.2.2.1,p.2.2.2.2.2.2.2.2.1,p.2.2.2.2.2.2.2.2.2.1,p.2.2.2.2.2.2.2.2.2.2.1,p.2.2.2.2.2.2.2.2.2.2.2.1,p.2.2.2.2.2.2.2.2.2.2.2.2.1,p.2.2.2.2.2.2.2.2.2.2.2.2.2.1,p.2.2.2.2.2.2.2.2.2.2.2.2.2.2.1,p.2.2.2.2.2.2.2.2.2.2.2.2.2.2.2.1,p.2.2.2.2.2.2.2.2.2.2.2.2.2.2.2.2.1,p.2.2.2.2.2.2.2.2.2.2.2.2.2.2.2.2.2.1,p.2.2.2.2.2.2.2.2.2.2.2.2.2.2.2.2.2.2.1,p.2.2.2.2.2.2.2.2.2.2.2.2.2.2.2.2.2.2.2.1,p.2.2.2.2.2.2.2.2.2.2.2.2.2.2.2.2.2.2.2.2.1,p.2.2.2.2.2.2.2.2.2.2.2.2.2.2.2.2.2.2.2.2.2.1,p.2.2.2.2.2.2.2.2.2.2.2.2.2.2.2.2.2.2.2.2.2.2)).bind fun r1=>
  (Ql.m (p.1,(!r1),p.2.2.2)).bind fun e2=>
  ke (.inl (e2,p.2.2.2.2.2.2.2.2.2.2.2.2.2.1,p.2.2.2.2.2.2.2.2.2.2.2.2.2.2.2.1,p.2.2.2.2.2.2.2.2.2.2.2.2.2.2.2.2.2.2.1,p.2.2.2.2.2.2.2.2.2.2.2.2.2.2.2.2.2.2.2.2.1,p.2.2.2.2.2.2.2.2.2.2.2.2.2.2.2.2.2.2.2.2.2.2)))
  (cond (decide (p.2.1=(16:Int)))
  (ke (.inl (p.1,p.2.2.2.2.2.2.2.2.2.2.2.2.2.1,p.2.2.2.2.2.2.2.2.2.2.2.2.2.2.2.1,p.2.2.2.2.2.2.2.2.2.2.2.2.2.2.2.2.2.2.1,p.2.2.2.2.2.2.2.2.2.2.2.2.2.2.2.2.2.2.2.2.1,p.2.2.2.2.2.2.2.2.2.2.2.2.2.2.2.2.2.2.2.2.2.2)))
  (cond (decide (p.2.1=(19:Int)))
  (ke (.inl (p.1,p.2.2.2.2.2.2.2.2.2.2.2.2.2.1,p.2.2.2.2.2.2.2.2.2.2.2.2.2.2.2.1,p.2.2.2.2.2.2.2.2.2.2.2.2.2.2.2.2.2.2.1,p.2.2.2.2.2.2.2.2.2.2.2.2.2.2.2.2.2.2.2.2.1,p.2.2.2.2.2.2.2.2.2.2.2.2.2.2.2.2.2.2.2.2.2.2)))
  ((ee.m (p.1,p.2.1,(decide (p.2.1=(17:Int))),p.2.2.2)).bind fun e3=>
  Sum.elim (fun e4=>ke (.inr ((e4.1,e4.2.1,e4.2.2.1,e4.2.2.2))))
  (fun se3=>Sum.elim (fun e5=>ke (.inl (p.1,e5.1,e5.2.1,p.2.2.2.2.2.2.2.2.2.2.2.2.2.2.2.2.2.2.1,p.2.2.2.2.2.2.2.2.2.2.2.2.2.2.2.2.2.2.2.2.1,e5.2.2)))
  (fun e6=>ke (.inl (p.1,e6.1,e6.2.1,e6.2.2.1,e6.2.2.2,p.2.2.2.2.2.2.2.2.2.2.2.2.2.2.2.2.2.2.2.2.2.2))) se3) e3)))
 o:=fun Z p e K=>Sum.elim (fun e=>so K (.normal) ⟨[(0,.p 0 0),(3,.i)],[],[.Za IJ,.cells .i,.deep .i,.dead,.cells (.slice .i)],0,4⟩ (((),e.1,()),(),(r9 p.t4 (e.2.1,p.t14.1,(),e.2.2.1,p.t16.1,p.t17.1,e.t3.1,p.t19.1,(),(),(),())),e.t4.1,p.t21.1,(),e.t5,())) (fun e=>so K (.ret) ⟨[],[],[.Za Dd,.cells .i,.deep .i,.cells (.slice .i)],0,4⟩ ((),(),(r9 p.t4 (e.1,p.t14.1,(),e.2.1,e.2.2.1,e.t3,p.t18.1,p.t19.1,(),(),(),())),p.t20.1,p.t21.1,p.t22,())) e
 Kd:=⟨[0,2,3,26,267],[],[],[]⟩
 pe:=[(.normal,⟨[0,3],[],[],[(0,[.any,.any,.any,.any,.any,.any,.any,.any,.any,.any,.any,.any,.any,.any,.any,.any,.any,.any,.any,(.mv (.slice (.int .i64)))])]⟩),(.ret,⟨[],[],[],[]⟩)]
def jg:PD (Int×Int×Bool×(Wa×((List Wa)×(Int×(Int×(Int×((List Bb)×((List Xb)×((List Bb)×((List za)×(pG))))))))))) ((Y46) ⊕ (Y48))where
 sk:=⟨[(0,.p 0 0),(2,.loc 0 0),(3,.i),(26,.i),(203,.v .bool)],[Kb],[.Za Dd,.cells .i,.deep .i,.cells (.slice .i)],0,4⟩
 p:=fun u=>(r3 u.1.2 ((q8 u.2.1.1),(u.2.2.1.1,(u.2.2.1.2.1,(u.2.2.1.2.2.1,(u.2.2.1.t3.1,(u.2.2.1.t4.1,(u.2.2.1.t5.1,(u.2.2.1.t6.1,(u.2.2.1.t7.1,(u.2.2.1.t8.1,(u.2.2.1.t9.1,(u.2.2.1.t10.1,(u.2.2.1.t12.1,(u.2.2.1.t13.1,(u.2.2.1.t14.1,(u.2.2.1.t15.1,(u.2.2.1.t16.1,(q3 u.t3)))))))))))))))))))
 st:=fun Y p ke=>cond p.2.2.1
  (ask (V.ja p.2.2.2.1.2.2.2.1 (da p.2.2.2.2.2.2.2.2.2.2.2.2.2.2.2.2.2.2.2.2.1)) (ask (V.ja p.2.2.2.1.2.2.1 (da p.2.2.2.2.2.2.2.2.2.2.2.2.2.2.2.2.2.2.2.2.2.1)) ((Ll.m (p.1,(gx p.2.2.2.2.2.2.2.2.2.2.2.2.2.2.2.2.2.2.2.2.1 (fa p.2.2.2.1.2.2.2.1) (0:Int)),(fa p.2.2.2.1.2.2.1),p.2.2.2)).bind fun e1=>
  cond e1
  (ke (.inl (p.2.2.2.2.2.2.2.2.2.2.2.2.2.1,1,p.2.2.2.1.2.2.2.2.2.1,4)))
  (ask (V.ja p.2.2.2.1.2.2.1 (da p.2.2.2.2.2.2.2.2.2.2.1)) (ask (V.ja p.2.2.2.1.2.1 (da p.2.2.2.2.2.2.2.2.2.2.2.2.2.2.2.2.2.2.2.2.1)) ((Iu ((gx p.2.2.2.2.2.2.2.2.2.2.1 (fa p.2.2.2.1.2.2.1) fb).2.1,(gx p.2.2.2.2.2.2.2.2.2.2.2.2.2.2.2.2.2.2.2.2.1 (fa p.2.2.2.1.2.1) (0:Int)))).bind fun r2=>
  cond (!r2)
  (ke (.inl (p.2.2.2.2.2.2.2.2.2.2.2.2.2.1,1,p.2.2.2.1.2.2.2.2.2.1,1)))
  (ask (V.ja p.2.2.2.1.2.1 (da p.2.2.2.2.2.2.2.2.2.2.2.2.2.2.2.2.2.2.2.2.1)) (ask (V.ja (gx p.2.2.2.2.2.2.2.2.2.2.2.2.2.2.2.2.2.2.2.2.1 (fa p.2.2.2.1.2.2.2.1) (0:Int)) (da (gx p.2.2.2.2.2.2.2.2.2.2.2.2.2.2.2.2.2.2.2.2.2.1 (fa p.2.2.2.1.2.2.1) []))) (ke (.inr ((p.1,p.2.2.2.2.2.2.2.2.2.2.2.2.2.1,p.2.2.2.2.2.2.2.2.2.2.2.2.2.2.2.1,p.2.2.2.2.2.2.2.2.2.2.2.2.2.2.2.2.2.2.1,p.2.2.2.2.2.2.2.2.2.2.2.2.2.2.2.2.2.2.2.2.1,(Oa p.2.2.2.2.2.2.2.2.2.2.2.2.2.2.2.2.2.2.2.2.2.1 (fa p.2.2.2.1.2.2.1) (Oa (gx p.2.2.2.2.2.2.2.2.2.2.2.2.2.2.2.2.2.2.2.2.2.1 (fa p.2.2.2.1.2.2.1) []) (fa (gx p.2.2.2.2.2.2.2.2.2.2.2.2.2.2.2.2.2.2.2.2.1 (fa p.2.2.2.1.2.2.2.1) (0:Int))) (gx p.2.2.2.2.2.2.2.2.2.2.2.2.2.2.2.2.2.2.2.2.1 (fa p.2.2.2.1.2.1) (0:Int)))),p.2.2.2.2.2.2.2.2.2.2.2.2.2.2.2.2.2.2.2.2.2.2))))))))))))
  ((gf.m (p.1,p.2.1,(decide (p.2.1=(15:Int))),p.2.2.2)).bind fun e3=>
  Sum.elim (fun e4=>ke (.inr ((e4.1,e4.2.1,e4.2.2.1,e4.2.2.2.1,e4.2.2.2.2.1,p.2.2.2.2.2.2.2.2.2.2.2.2.2.2.2.2.2.2.2.2.2.1,e4.2.2.2.2.2))))
  (fun e5=>ke (.inl (e5.1,e5.2.1,e5.2.2.1,e5.2.2.2))) e3)
 o:=fun Z p e K=>Sum.elim (fun e=>so K (.ret) ⟨[],[],[.Za Dd,.cells .i,.deep .i,.cells (.slice .i)],0,4⟩ ((),(),(r9 p.t4 (e.1,p.t14.1,(),e.2.1,e.2.2.1,e.t3,p.t18.1,p.t19.1,(),(),(),())),p.t20.1,p.t21.1,p.t22,())) (fun e=>so K (.normal) ⟨[(0,.p 0 0),(3,.i)],[],[.Za IJ,.cells .i,.deep .i,.dead,.cells (.slice .i)],0,4⟩ (((),e.1,()),(),(r9 p.t4 (e.2.1,p.t14.1,(),e.2.2.1,p.t16.1,p.t17.1,e.t3.1,p.t19.1,(),(),(),())),e.t4.1,e.t5.1,(),e.t6,())) e
 Kd:=⟨[0,2,3,26,203],[],[],[]⟩
 pe:=[(.ret,⟨[],[],[],[]⟩),(.normal,⟨[0,3],[],[],[(0,[.any,.any,.any,.any,.any,.any,.any,.any,.any,.any,.any,.any,.any,.any,.any,.any,.any,.any,.any,(.mv (.slice (.int .i64)))])]⟩)]
def kg:PD (Int×Int×Bool×(Wa×((List Wa)×(Int×(Int×(Int×((List Bb)×((List Xb)×((List Bb)×((List za)×(pG))))))))))) ((Y46) ⊕ (Y48))where
 sk:=⟨[(0,.p 0 0),(2,.loc 0 0),(3,.i),(26,.i),(163,.v .bool)],[Kb],[.Za Dd,.cells .i,.deep .i,.cells (.slice .i)],0,4⟩
 p:=fun u=>(r3 u.1.2 ((q8 u.2.1.1),(u.2.2.1.1,(u.2.2.1.2.1,(u.2.2.1.2.2.1,(u.2.2.1.t3.1,(u.2.2.1.t4.1,(u.2.2.1.t5.1,(u.2.2.1.t6.1,(u.2.2.1.t7.1,(u.2.2.1.t8.1,(u.2.2.1.t9.1,(u.2.2.1.t10.1,(u.2.2.1.t12.1,(u.2.2.1.t13.1,(u.2.2.1.t14.1,(u.2.2.1.t15.1,(u.2.2.1.t16.1,(q3 u.t3)))))))))))))))))))
 st:=fun Y p ke=>cond p.2.2.1
  (ask (V.ja p.2.2.2.1.2.1 (da p.2.2.2.2.2.2.2.2.2.1)) (ask (V.ja p.2.2.2.1.2.2.1 (da p.2.2.2.2.2.2.2.2.2.2.2.2.2.2.2.2.2.2.2.2.1)) ((Iu ((gx p.2.2.2.2.2.2.2.2.2.1 (fa p.2.2.2.1.2.1) uc).2.1,(gx p.2.2.2.2.2.2.2.2.2.2.2.2.2.2.2.2.2.2.2.2.1 (fa p.2.2.2.1.2.2.1) (0:Int)))).bind fun r1=>
  cond (!r1)
  (ke (.inl (p.2.2.2.2.2.2.2.2.2.2.2.2.2.1,1,p.2.2.2.1.2.2.2.2.2.1,1)))
  (ask (V.ja p.2.2.2.1.2.2.1 (da p.2.2.2.2.2.2.2.2.2.2.2.2.2.2.2.2.2.2.2.2.1)) (ask (V.ja p.2.2.2.1.2.1 (da p.2.2.2.2.2.2.2.2.2.2.2.2.2.2.2.2.2.2.2.2.1)) (ke (.inr ((p.1,p.2.2.2.2.2.2.2.2.2.2.2.2.2.1,p.2.2.2.2.2.2.2.2.2.2.2.2.2.2.2.1,p.2.2.2.2.2.2.2.2.2.2.2.2.2.2.2.2.2.2.1,(Oa p.2.2.2.2.2.2.2.2.2.2.2.2.2.2.2.2.2.2.2.2.1 (fa p.2.2.2.1.2.1) (gx p.2.2.2.2.2.2.2.2.2.2.2.2.2.2.2.2.2.2.2.2.1 (fa p.2.2.2.1.2.2.1) (0:Int))),p.2.2.2.2.2.2.2.2.2.2.2.2.2.2.2.2.2.2.2.2.2.1,p.2.2.2.2.2.2.2.2.2.2.2.2.2.2.2.2.2.2.2.2.2.2)))))))))
  ((jg.m (p.1,p.2.1,(decide (p.2.1=(14:Int))),p.2.2.2)).bind fun e2=>
  Sum.elim (fun e3=>ke (.inl (e3.1,e3.2.1,e3.2.2.1,e3.2.2.2)))
  (fun e4=>ke (.inr ((e4.1,e4.2.1,e4.2.2.1,e4.2.2.2.1,e4.2.2.2.2.1,e4.2.2.2.2.2.1,e4.2.2.2.2.2.2)))) e2)
 o:=fun Z p e K=>Sum.elim (fun e=>so K (.ret) ⟨[],[],[.Za Dd,.cells .i,.deep .i,.cells (.slice .i)],0,4⟩ ((),(),(r9 p.t4 (e.1,p.t14.1,(),e.2.1,e.2.2.1,e.t3,p.t18.1,p.t19.1,(),(),(),())),p.t20.1,p.t21.1,p.t22,())) (fun e=>so K (.normal) ⟨[(0,.p 0 0),(3,.i)],[],[.Za IJ,.cells .i,.deep .i,.dead,.cells (.slice .i)],0,4⟩ (((),e.1,()),(),(r9 p.t4 (e.2.1,p.t14.1,(),e.2.2.1,p.t16.1,p.t17.1,e.t3.1,p.t19.1,(),(),(),())),e.t4.1,e.t5.1,(),e.t6,())) e
 Kd:=⟨[0,2,3,26,163],[],[],[]⟩
 pe:=[(.ret,⟨[],[],[],[]⟩),(.normal,⟨[0,3],[],[],[(0,[.any,.any,.any,.any,.any,.any,.any,.any,.any,.any,.any,.any,.any,.any,.any,.any,.any,.any,.any,(.mv (.slice (.int .i64)))])]⟩)]
def lg:PD (Int×Int×Bool×(Wa×((List Wa)×(Int×(Int×(Int×((List Bb)×((List Xb)×((List Bb)×((List za)×(pG))))))))))) ((Y44) ⊕ (Y45))where
 sk:=⟨[(0,.p 0 0),(2,.loc 0 0),(3,.i),(26,.i),(88,.v .bool)],[Kb],[.Za Dd,.cells .i,.deep .i,.cells (.slice .i)],0,4⟩
 p:=fun u=>(r3 u.1.2 ((q8 u.2.1.1),(u.2.2.1.1,(u.2.2.1.2.1,(u.2.2.1.2.2.1,(u.2.2.1.t3.1,(u.2.2.1.t4.1,(u.2.2.1.t5.1,(u.2.2.1.t6.1,(u.2.2.1.t7.1,(u.2.2.1.t8.1,(u.2.2.1.t9.1,(u.2.2.1.t10.1,(u.2.2.1.t12.1,(u.2.2.1.t13.1,(u.2.2.1.t14.1,(u.2.2.1.t15.1,(u.2.2.1.t16.1,(q3 u.t3)))))))))))))))))))
 st:=fun Y p ke=>cond p.2.2.1
  (cond (decide ((nt (da p.2.2.2.2.2.2.2.2.2.2.2.2.1))<=p.2.2.2.2.2.2.2.2.2.2.2.2.2.2.2.2.2.2.2.1))
  (ke (.inl (p.2.2.2.2.2.2.2.2.2.2.2.2.2.1,2,p.2.2.2.2.2.2.2.2.2.2.2.2.2.2.2.2.1,p.2.2.2.2.2.2.2.2.2.2.2.2.2.2.2.2.2.1,p.2.2.2.2.2.2.2.2.2.2.2.2.2.2.2.2.2.2.2.1)))
  (ask (V.ja p.2.2.2.2.2.2.2.2.2.2.2.2.2.2.2.2.2.2.2.1 (da p.2.2.2.2.2.2.2.2.2.2.2.2.1)) ((Ml.m (p.1,(gx p.2.2.2.2.2.2.2.2.2.2.2.2.1 (fa p.2.2.2.2.2.2.2.2.2.2.2.2.2.2.2.2.2.2.2.1) (0:Int)),p.2.2.2.1,p.2.2.2.2.1,p.2.2.2.2.2.1,p.2.2.2.2.2.2.1,p.2.2.2.2.2.2.2.1,p.2.2.2.2.2.2.2.2.1,p.2.2.2.2.2.2.2.2.2.1,p.2.2.2.2.2.2.2.2.2.2.1,p.2.2.2.2.2.2.2.2.2.2.2.1,p.2.2.2.2.2.2.2.2.2.2.2.2.1,p.2.2.2.2.2.2.2.2.2.2.2.2.2.1,p.2.2.2.2.2.2.2.2.2.2.2.2.2.2.1,p.2.2.2.2.2.2.2.2.2.2.2.2.2.2.2.1,p.2.2.2.2.2.2.2.2.2.2.2.2.2.2.2.2.1,p.2.2.2.2.2.2.2.2.2.2.2.2.2.2.2.2.2.1,p.2.2.2.2.2.2.2.2.2.2.2.2.2.2.2.2.2.2.1,(Ea (p.2.2.2.2.2.2.2.2.2.2.2.2.2.2.2.2.2.2.2.1+(1:Int))),p.2.2.2.2.2.2.2.2.2.2.2.2.2.2.2.2.2.2.2.2)).bind fun e1=>
  cond e1
  (ke (.inl (p.2.2.2.2.2.2.2.2.2.2.2.2.2.1,5,p.2.2.2.2.2.2.2.2.2.2.2.2.2.2.2.2.1,p.2.2.2.2.2.2.2.2.2.2.2.2.2.2.2.2.2.1,(Ea (p.2.2.2.2.2.2.2.2.2.2.2.2.2.2.2.2.2.2.2.1+(1:Int))))))
  (ask (V.ja p.2.2.2.1.2.1 (da p.2.2.2.2.2.2.2.2.2.2.2.2.2.2.2.2.2.2.2.2.1)) (ke (.inr ((p.1,p.2.2.2.2.2.2.2.2.2.2.2.2.2.1,p.2.2.2.2.2.2.2.2.2.2.2.2.2.2.2.1,p.2.2.2.2.2.2.2.2.2.2.2.2.2.2.2.2.2.2.1,(Ea (p.2.2.2.2.2.2.2.2.2.2.2.2.2.2.2.2.2.2.2.1+(1:Int))),(Oa p.2.2.2.2.2.2.2.2.2.2.2.2.2.2.2.2.2.2.2.2.1 (fa p.2.2.2.1.2.1) (gx p.2.2.2.2.2.2.2.2.2.2.2.2.1 (fa p.2.2.2.2.2.2.2.2.2.2.2.2.2.2.2.2.2.2.2.1) (0:Int))),p.2.2.2.2.2.2.2.2.2.2.2.2.2.2.2.2.2.2.2.2.2.1,p.2.2.2.2.2.2.2.2.2.2.2.2.2.2.2.2.2.2.2.2.2.2))))))))
  ((kg.m (p.1,p.2.1,(decide (p.2.1=(13:Int))),p.2.2.2)).bind fun e2=>
  Sum.elim (fun e3=>ke (.inl (e3.1,e3.2.1,e3.2.2.1,e3.2.2.2,p.2.2.2.2.2.2.2.2.2.2.2.2.2.2.2.2.2.2.2.1)))
  (fun e4=>ke (.inr ((e4.1,e4.2.1,e4.2.2.1,e4.2.2.2.1,p.2.2.2.2.2.2.2.2.2.2.2.2.2.2.2.2.2.2.2.1,e4.2.2.2.2.1,e4.2.2.2.2.2.1,e4.2.2.2.2.2.2)))) e2)
 o:=fun Z p e K=>Sum.elim (fun e=>so K (.ret) ⟨[],[],[.Za Dd,.cells .i,.deep .i,.cells (.slice .i)],0,4⟩ ((),(),(r9 p.t4 (e.1,p.t14.1,(),(r3 e.2 (p.t18.1,e.t4,(),(),(),())))),p.t20.1,p.t21.1,p.t22,())) (fun e=>so K (.normal) ⟨[(0,.p 0 0),(3,.i)],[],[.Za IJ,.cells .i,.deep .i,.dead,.cells (.slice .i)],0,4⟩ (((),e.1,()),(),(r9 p.t4 (e.2.1,p.t14.1,(),e.2.2.1,p.t16.1,p.t17.1,e.t3.1,e.t4.1,(),(),(),())),e.t5.1,e.t6.1,(),e.t7,())) e
 Kd:=⟨[0,2,3,26,88],[],[],[]⟩
 pe:=[(.ret,⟨[],[],[],[]⟩),(.normal,⟨[0,3],[],[],[(0,[.any,.any,.any,.any,.any,.any,.any,.any,.any,.any,.any,.any,.any,.any,.any,.any,.any,.any,.any,(.mv (.slice (.int .i64)))])]⟩)]
def ai:PD (Int×Int×Bool×Wa×((List Wa)×(Int×(Int×(Int×((List Bb)×((List Xb)×((List Bb)×((List za)×(pG)))))))))) ((Y44) ⊕ (Y45))where
 sk:=⟨[(0,.p 0 0),(2,.loc 0 0),(3,.i),(26,.i),(47,.v .bool)],[Kb],[.Za Dd,.cells .i,.deep .i,.cells (.slice .i)],0,4⟩
 p:=fun u=>(r3 u.1.2 ((q8 u.2.1.1),u.2.2.1.1,(u.2.2.1.2.1,(u.2.2.1.2.2.1,(u.2.2.1.t3.1,(u.2.2.1.t4.1,(u.2.2.1.t5.1,(u.2.2.1.t6.1,(u.2.2.1.t7.1,(u.2.2.1.t8.1,(u.2.2.1.t9.1,(u.2.2.1.t10.1,(u.2.2.1.t12.1,(u.2.2.1.t13.1,(u.2.2.1.t14.1,(u.2.2.1.t15.1,(u.2.2.1.t16.1,(q3 u.t3))))))))))))))))))
 st:=fun Y p ke=>cond p.2.2.1
  (ask (V.ja p.2.2.2.1.2.2.2.1 (da p.2.2.2.2.2.2.2.2.2.2.2.2.2.2.2.2.2.2.2.2.1)) (ask (V.ja p.2.2.2.1.2.2.1 (da p.2.2.2.2.2.2.2.2.2.2.2.2.2.2.2.2.2.2.2.2.2.1)) ((Nl.m (p.1,(gx p.2.2.2.2.2.2.2.2.2.2.2.2.2.2.2.2.2.2.2.2.1 (fa p.2.2.2.1.2.2.2.1) (0:Int)),(fa p.2.2.2.1.2.2.1),p.2.2.2)).bind fun e1=>
  cond e1
  (ke (.inl (p.2.2.2.2.2.2.2.2.2.2.2.2.2.1,1,p.2.2.2.1.2.2.2.2.2.1,4,p.2.2.2.2.2.2.2.2.2.2.2.2.2.2.2.2.2.2.2.1)))
  (ask (V.ja (gx p.2.2.2.2.2.2.2.2.2.2.2.2.2.2.2.2.2.2.2.2.1 (fa p.2.2.2.1.2.2.2.1) (0:Int)) (da (gx p.2.2.2.2.2.2.2.2.2.2.2.2.2.2.2.2.2.2.2.2.2.1 (fa p.2.2.2.1.2.2.1) []))) (ask (V.ja p.2.2.2.1.2.1 (da p.2.2.2.2.2.2.2.2.2.2.2.2.2.2.2.2.2.2.2.2.1)) (ke (.inr ((p.1,p.2.2.2.2.2.2.2.2.2.2.2.2.2.1,p.2.2.2.2.2.2.2.2.2.2.2.2.2.2.2.1,p.2.2.2.2.2.2.2.2.2.2.2.2.2.2.2.2.2.2.1,p.2.2.2.2.2.2.2.2.2.2.2.2.2.2.2.2.2.2.2.1,(Oa p.2.2.2.2.2.2.2.2.2.2.2.2.2.2.2.2.2.2.2.2.1 (fa p.2.2.2.1.2.1) (gx (gx p.2.2.2.2.2.2.2.2.2.2.2.2.2.2.2.2.2.2.2.2.2.1 (fa p.2.2.2.1.2.2.1) []) (fa (gx p.2.2.2.2.2.2.2.2.2.2.2.2.2.2.2.2.2.2.2.2.1 (fa p.2.2.2.1.2.2.2.1) (0:Int))) (0:Int))),p.2.2.2.2.2.2.2.2.2.2.2.2.2.2.2.2.2.2.2.2.2.1,p.2.2.2.2.2.2.2.2.2.2.2.2.2.2.2.2.2.2.2.2.2.2)))))))))
  ((lg.m (p.1,p.2.1,(decide (p.2.1=(12:Int))),p.2.2.2)).bind fun e2=>
  Sum.elim (fun e3=>ke (.inl (e3.1,e3.2.1,e3.2.2.1,e3.2.2.2.1,e3.2.2.2.2)))
  (fun e4=>ke (.inr ((e4.1,e4.2.1,e4.2.2.1,e4.2.2.2.1,e4.2.2.2.2.1,e4.2.2.2.2.2.1,e4.2.2.2.2.2.2.1,e4.2.2.2.2.2.2.2)))) e2)
 o:=fun Z p e K=>Sum.elim (fun e=>so K (.ret) ⟨[],[],[.Za Dd,.cells .i,.deep .i,.cells (.slice .i)],0,4⟩ ((),(),(r9 p.t4 (e.1,p.t14.1,(),(r3 e.2 (p.t18.1,e.t4,(),(),(),())))),p.t20.1,p.t21.1,p.t22,())) (fun e=>so K (.normal) ⟨[(0,.p 0 0),(3,.i)],[],[.Za IJ,.cells .i,.deep .i,.dead,.cells (.slice .i)],0,4⟩ (((),e.1,()),(),(r9 p.t4 (e.2.1,p.t14.1,(),e.2.2.1,p.t16.1,p.t17.1,e.t3.1,e.t4.1,(),(),(),())),e.t5.1,e.t6.1,(),e.t7,())) e
 Kd:=⟨[0,2,3,26,47],[],[],[]⟩
 pe:=[(.ret,⟨[],[],[],[]⟩),(.normal,⟨[0,3],[],[],[(0,[.any,.any,.any,.any,.any,.any,.any,.any,.any,.any,.any,.any,.any,.any,.any,.any,.any,.any,.any,(.mv (.slice (.int .i64)))])]⟩)]
def Kw{X:Type}(a:T4)(K:(Y44) ⊕ (Y45)->Option X):Option X:=
 ask (V.ja a.2.2.2.2.2.2.2.2.2.2.1 (da a.1)) ((ai.m ((gx a.1 (fa a.2.2.2.2.2.2.2.2.2.2.1) Ta).2.2.2.2.2.2.1,(gx a.1 (fa a.2.2.2.2.2.2.2.2.2.2.1) Ta).1,(decide ((gx a.1 (fa a.2.2.2.2.2.2.2.2.2.2.1) Ta).1=(11:Int))),(gx a.1 (fa a.2.2.2.2.2.2.2.2.2.2.1) Ta),a)).bind fun e1=>
 Sum.elim (fun e2=>K (.inl (e2.1,e2.2.1,e2.2.2.1,e2.2.2.2.1,e2.2.2.2.2)))
 (fun e3=>K (.inr ((e3.2.1,e3.1,e3.2.2.1,e3.2.2.2.1,e3.2.2.2.2.1,e3.2.2.2.2.2.1,e3.2.2.2.2.2.2.1,e3.2.2.2.2.2.2.2)))) e1)
def vg:=fun a=>Kw a some
def EU:Spec:=YK.sp vg
noncomputable def Eb:Env:=eE [1000008,1000014,1000022,1000026,1000034,1000035,1000039,1000043,1000045,1000047,2000010,2000018,2000028,2000039] (mb [(126,CU),(127,S7),(128,AU),(129,yU),(130,vU),(131,tU)]) (qL 2000010 Nl.q (qL 2000018 Ml.q (qL 2000028 Ll.q (qL 1000035 Ql.q (qL 2000039 Kl.q (qL 1000043 Ol.q (qL 1000047 Pe.q (qL 1000045 Mh.q (qL 1000039 ee.q (qL 1000034 gf.q (qL 1000026 jg.q (qL 1000022 kg.q (qL 1000014 lg.q (qL 1000008 ai.q qN))))))))))))))
theorem WD:LS C Eb true [2] 352 (pc [1,1,0,1,0,1,0,1,1,0,0] Tryz.f101):=fun hc=>
 pN (n':=fun p=>(((),(r3 p ())),((r7 p.t3.1 (p.t3.1.t7,())),()),(Ig p.t4 ((),(r5 p.t15 ((),(),(),())))),p.t20.1,p.t21.1,p.t22,())) (Zd:=⟨uh Eb.join 2000010,Eb.call,Eb.loop⟩) hc rfl Nl (by intros;simp only[Nl,PD.m,nn])
theorem VD:LS C Eb true [2] 352 (pc [1,1,0,1,0,1,1,1,0,1,1,1,0,0] Tryz.f101):=fun hc=>
 pN (n':=fun p=>(((),p.1,p.2.1,()),((r7 p.2.2.1 (p.2.2.1.t7,())),()),(Ig p.t3 ((),(r5 p.t14 ((),(),(),())))),p.t19.1,p.t20.1,p.t21,())) (Zd:=⟨uh Eb.join 2000018,Eb.call,Eb.loop⟩) hc rfl Ml (by intros;simp only[Ml,PD.m,nn])
theorem UD:LS C Eb true [2] 352 (pc [1,1,0,1,0,1,1,1,1,1,1,1,0,1,1,0,0] Tryz.f101):=fun hc=>
 pN (n':=fun p=>(((),(r3 p ())),((r7 p.t3.1 (p.t3.1.t7,())),()),(Ig p.t4 ((),(r5 p.t15 ((),(),(),())))),p.t20.1,p.t21.1,p.t22,())) (Zd:=⟨uh Eb.join 2000028,Eb.call,Eb.loop⟩) hc rfl Ll (by intros;simp only[Ll,PD.m,nn])
theorem cE:LS C Eb true [2] 352 (pc [1,1,0,1,0,1,1,1,1,1,1,1,1,1,0,1] Tryz.f101):=fun hc=>
 pN (n':=fun p=>(((),p.1,p.2.1,()),((r7 p.2.2.1 (p.2.2.1.t7,())),()),(Ig p.t3 ((),(r5 p.t14 ((),(),(),())))),p.t19.1,p.t20.1,p.t21,())) (Zd:=⟨uh Eb.join 1000035,Eb.call,Eb.loop⟩) hc rfl Ql (by intros;simp only[Ql,PD.m,nn])
theorem TD:LS C Eb true [2] 352 (pc [1,1,0,1,0,1,1,1,1,1,1,1,1,1,1,1,1,1,0,0,0] Tryz.f101):=fun hc=>
 pN (n':=fun p=>(((),p.1,()),(),(Ig p.2 ((),(r5 p.t12 ((),(),(),())))),p.t17.1,p.t18.1,p.t19,())) (Zd:=⟨uh Eb.join 2000039,Eb.call,Eb.loop⟩) hc rfl Kl (by intros;simp only[Kl,PD.m,nn])
theorem ZD:LS C Eb true [2] 352 (pc [1,1,0,1,0,1,1,1,1,1,1,1,1,1,1,1,1,1,0,1,1,1] Tryz.f101):=fun hc=>
 pN (n':=fun p=>(((),p.1,p.2.1,()),(),(Ig p.2.2 ((),(r5 p.t13 ((),(),(),())))),p.t18.1,p.t19.1,p.t20,())) (Zd:=⟨uh Eb.join 1000043,Eb.call,Eb.loop⟩) hc rfl Ol (by intros;simp only[Ol,PD.m,nn])
theorem XD:LS C Eb true [2] 352 (pc [1,1,0,1,0,1,1,1,1,1,1,1,1,1,1,1,1,1,1,1,1,1] Tryz.f101):=fun hc=>
 pN (n':=fun p=>(((),(r3 p ())),((r7 p.t3.1 (p.t3.1.t7,())),()),(Ig p.t4 ((),(r5 p.t15 ((),(),(),())))),p.t20.1,p.t21.1,p.t22,())) (Zd:=⟨uh Eb.join 1000047,Eb.call,Eb.loop⟩) hc rfl Pe (by intros;simp only[Pe,PD.m,nn])
theorem YD:LS C Eb true [2] 352 (pc [1,1,0,1,0,1,1,1,1,1,1,1,1,1,1,1,1,1,1,1] Tryz.f101):=fun hc=>
 pN (n':=fun p=>(((),(r3 p ())),((r7 p.t3.1 (p.t3.1.t7,())),()),(Ig p.t4 ((),(r5 p.t15 ((),(),(),())))),p.t20.1,p.t21.1,p.t22,())) (Zd:=⟨uh Eb.join 1000045,Eb.call,Eb.loop⟩) hc rfl Mh (by intros;simp only[Mh,PD.m,nn]) (hl:=(nc (by kernel_rfl) (Va (XD hc) Mb)))
theorem bE:LS C Eb true [2] 352 (pc [1,1,0,1,0,1,1,1,1,1,1,1,1,1,1,1,1,1] Tryz.f101):=fun hc=>
 pN (n':=fun p=>(((),(r3 p ())),((r7 p.t3.1 (p.t3.1.t7,())),()),(Ig p.t4 ((),(r5 p.t15 ((),(),(),())))),p.t20.1,p.t21.1,p.t22,())) (Zd:=⟨uh Eb.join 1000039,Eb.call,Eb.loop⟩) hc rfl ee (by intros;simp only[ee,PD.m,nn]) (hl:=(nc (by kernel_rfl) (Va (TD hc) (Va (ZD hc) (Va (YD hc) Mb)))))
theorem gE:LS C Eb true [2] 352 (pc [1,1,0,1,0,1,1,1,1,1,1,1,1,1] Tryz.f101):=fun hc=>
 pN (n':=fun p=>(((),(r3 p ())),((r7 p.t3.1 (p.t3.1.t7,())),()),(Ig p.t4 ((),(r5 p.t15 ((),(),(),())))),p.t20.1,p.t21.1,p.t22,())) (Zd:=⟨uh Eb.join 1000034,Eb.call,Eb.loop⟩) hc rfl gf (by intros;simp only[gf,PD.m,nn]) (hl:=(nc (by kernel_rfl) (Va (cE hc) (Va (bE hc) Mb))))
theorem iE:LS C Eb true [2] 352 (pc [1,1,0,1,0,1,1,1,1,1,1,1] Tryz.f101):=fun hc=>
 pN (n':=fun p=>(((),(r3 p ())),((r7 p.t3.1 (p.t3.1.t7,())),()),(Ig p.t4 ((),(r5 p.t15 ((),(),(),())))),p.t20.1,p.t21.1,p.t22,())) (Zd:=⟨uh Eb.join 1000026,Eb.call,Eb.loop⟩) hc rfl jg (by intros;simp only[jg,PD.m,nn]) (hl:=(nc (by kernel_rfl) (Va (UD hc) (Va (gE hc) Mb))))
theorem jE:LS C Eb true [2] 352 (pc [1,1,0,1,0,1,1,1,1,1] Tryz.f101):=fun hc=>
 pN (n':=fun p=>(((),(r3 p ())),((r7 p.t3.1 (p.t3.1.t7,())),()),(Ig p.t4 ((),(r5 p.t15 ((),(),(),())))),p.t20.1,p.t21.1,p.t22,())) (Zd:=⟨uh Eb.join 1000022,Eb.call,Eb.loop⟩) hc rfl kg (by intros;simp only[kg,PD.m,nn]) (hl:=(nc (by kernel_rfl) (Va (iE hc) Mb)))
theorem kE:LS C Eb true [2] 352 (pc [1,1,0,1,0,1,1,1] Tryz.f101):=fun hc=>
 pN (n':=fun p=>(((),(r3 p ())),((r7 p.t3.1 (p.t3.1.t7,())),()),(Ig p.t4 ((),(r5 p.t15 ((),(),(),())))),p.t20.1,p.t21.1,p.t22,())) (Zd:=⟨uh Eb.join 1000014,Eb.call,Eb.loop⟩) hc rfl lg (by intros;simp only[lg,PD.m,nn]) (hl:=(nc (by kernel_rfl) (Va (VD hc) (Va (jE hc) Mb))))
theorem pI:LS C Eb true [2] 352 (pc [1,1,0,1,0,1] Tryz.f101):=fun hc=>
 pN (n':=fun p=>(((),(r3 p ())),((r7 p.t3.1 (p.t3.1.t7,())),()),(Ig p.t4 ((),(r5 p.t15 ((),(),(),())))),p.t20.1,p.t21.1,p.t22,())) (Zd:=⟨uh Eb.join 1000008,Eb.call,Eb.loop⟩) hc rfl ai (by intros;simp only[ai,PD.m,nn]) (hl:=(nc (by kernel_rfl) (Va (WD hc) (Va (kE hc) Mb))))
theorem FU:OK (2) 101 (YK.sp vg):=
 fO (d:=1) (env:=Eb) (Da (cc DU (cc T7 (cc BU (cc zU (cc wU (cc uU cn))))))) (fn:=Tryz.f101) (mc:=@Kw) (by intros;simp only[vg,Kw,nn]) (Fa:=[2]) (hl:=fun hc=>(nc (by kernel_rfl) (Va (pI hc) Mb)))
end
end Go.U
end
