/- The functions of the program as Lean functions, and that the evaluator says so. -/
import Derived.Test.YtjenflkegbmkkaaGreatDoorC9
set_option linter.unusedVariables false
set_option linter.unusedSimpArgs false
set_option linter.unusedSectionVars false
open Int renaming toNat→fa
open List renaming length→da,set→Qa
section
set_option maxRecDepth 100000
namespace Go.U
open Go Go.Proofs
noncomputable section
variable {C:V.Callee}
def qK:FS (Qt) (Int)where
 sk:=⟨(cL [(.ptr 0 0),(.agg Mb)]),[.Ya Md,.cells .i,.deep .i,.cells (.slice .i)],0⟩
 a:=fun u=>((q8 u.1.2.1),(Eg u.2.1 (r5 u.2.1.t12 (u.2.2.1,u.t3.1,u.t4.1))))
 o:=fun Z a r K=>kv K .i [.Ya Md,.cells .i,.deep .i,.cells (.slice .i)] 0 r ((Eg a.2 ((),(r5 a.t12 ((),(),(),())))),a.t17.1,a.t18.1,a.t19,())
def yw{X:Type}(a:Qt)(K:Int->Option X):Option X:=
 ask (V.ja a.1.2.2.1 (da a.2.2.2.2.2.2.2.2.2.2.2.2.2.2.2.2.2.1)) (ask (V.ja a.1.2.2.2.1 (da a.2.2.2.2.2.2.2.2.2.2.2.2.2.2.2.2.2.1)) (cond (decide (a.1.2.2.2.2.1=(14:Int)))
 (cond (decide ((gx a.2.2.2.2.2.2.2.2.2.2.2.2.2.2.2.2.2.1 (fa a.1.2.2.1) (0:Int))=(gx a.2.2.2.2.2.2.2.2.2.2.2.2.2.2.2.2.2.1 (fa a.1.2.2.2.1) (0:Int))))
 (K 0)
 (K 1))
 (cond (decide (a.1.2.2.2.2.1=(15:Int)))
 (cond (!(decide ((gx a.2.2.2.2.2.2.2.2.2.2.2.2.2.2.2.2.2.1 (fa a.1.2.2.1) (0:Int))=(gx a.2.2.2.2.2.2.2.2.2.2.2.2.2.2.2.2.2.1 (fa a.1.2.2.2.1) (0:Int)))))
 (K 0)
 (K 1))
 (cond (decide (a.1.2.2.2.2.1=(16:Int)))
 (cond (decide ((gx a.2.2.2.2.2.2.2.2.2.2.2.2.2.2.2.2.2.1 (fa a.1.2.2.1) (0:Int))<(gx a.2.2.2.2.2.2.2.2.2.2.2.2.2.2.2.2.2.1 (fa a.1.2.2.2.1) (0:Int))))
 (K 0)
 (K 1))
 (cond (decide (a.1.2.2.2.2.1=(17:Int)))
 (cond (decide ((gx a.2.2.2.2.2.2.2.2.2.2.2.2.2.2.2.2.2.1 (fa a.1.2.2.1) (0:Int))<=(gx a.2.2.2.2.2.2.2.2.2.2.2.2.2.2.2.2.2.1 (fa a.1.2.2.2.1) (0:Int))))
 (K 0)
 (K 1))
 (cond (decide (a.1.2.2.2.2.1=(18:Int)))
 (cond (decide ((gx a.2.2.2.2.2.2.2.2.2.2.2.2.2.2.2.2.2.1 (fa a.1.2.2.2.1) (0:Int))<(gx a.2.2.2.2.2.2.2.2.2.2.2.2.2.2.2.2.2.1 (fa a.1.2.2.1) (0:Int))))
 (K 0)
 (K 1))
 (cond (decide (a.1.2.2.2.2.1=(19:Int)))
 (cond (decide ((gx a.2.2.2.2.2.2.2.2.2.2.2.2.2.2.2.2.2.1 (fa a.1.2.2.2.1) (0:Int))<=(gx a.2.2.2.2.2.2.2.2.2.2.2.2.2.2.2.2.2.1 (fa a.1.2.2.1) (0:Int))))
 (K 0)
 (K 1))
 (K 1))))))))
def vh:=fun a=>yw a some
def PT:Spec:=qK.sp vh
noncomputable def XZ:Env:=eE [] (yb []) qN
theorem QT:OK (1) 100 (qK.sp vh):=
 fO (d:=0) (env:=XZ) (Da cn) (fn:=Tryz.f100) (mc:=@yw) (by intros;simp only[vh,yw,nn]) (Fa:=[3])
def mK:FS (Y19) (Unit)where
 sk:=⟨(cL [(.ptr 0 0),(.agg Mb),.i]),[.Ya Md,.cells .i,.deep .i,.cells (.slice .i)],0⟩
 a:=fun u=>((q8 u.1.2.1),u.1.2.2.1,(Eg u.2.1 (r5 u.2.1.t12 (u.2.2.1,u.t3.1,u.t4.1))))
 o:=fun Z a r K=>kv K (.Sc .nil) [.Ya Md,.cells .i,.deep .i,.cells (.slice .i)] 0 () ((Eg a.2.2 ((),(1:Int),a.1.t5.1,a.2.1,a.t16.1,a.t17.1,(),(),(),())),a.t18.1,a.t19.1,a.t20,())
def fC{X:Type}(a:Y19)(K:Unit->Option X):Option X:=
 K ()
def eC:=fun a=>fC a some
def HT:Spec:=mK.sp eC
noncomputable def RZ:Env:=eE [] (yb []) qN
theorem IT:OK (1) 126 (mK.sp eC):=
 fO (d:=0) (env:=RZ) (Da cn) (fn:=Tryz.f126) (mc:=@fC) (by intros;simp only[eC,fC,nn]) (Fa:=[4])
def lK:FS (Qt) (Bool)where
 sk:=⟨(cL [(.ptr 0 0),(.agg Mb)]),[.Ya Md,.cells .i,.deep .i,.cells (.slice .i)],0⟩
 a:=fun u=>((q8 u.1.2.1),(Eg u.2.1 (r5 u.2.1.t12 (u.2.2.1,u.t3.1,u.t4.1))))
 o:=fun Z a r K=>kv K (.bool) [.Ya Md,.cells .i,.deep .i,.cells (.slice .i)] 0 r ((Eg a.2 ((),(r5 a.t12 ((),(),(),())))),a.t17.1,a.t18.1,a.t19,())
def tw{X:Type}(a:Qt)(K:Bool->Option X):Option X:=
 ask (V.ja a.1.2.2.1 (da a.2.2.2.2.2.2.2.2.2.2.2.2.2.2.2.2.2.1)) (ask (V.ja a.1.2.2.2.1 (da a.2.2.2.2.2.2.2.2.2.2.2.2.2.2.2.2.2.1)) (cond (decide (a.1.2.2.2.2.1=(14:Int)))
 (K (decide ((gx a.2.2.2.2.2.2.2.2.2.2.2.2.2.2.2.2.2.1 (fa a.1.2.2.1) (0:Int))=(gx a.2.2.2.2.2.2.2.2.2.2.2.2.2.2.2.2.2.1 (fa a.1.2.2.2.1) (0:Int)))))
 (cond (decide (a.1.2.2.2.2.1=(15:Int)))
 (K (!(decide ((gx a.2.2.2.2.2.2.2.2.2.2.2.2.2.2.2.2.2.1 (fa a.1.2.2.1) (0:Int))=(gx a.2.2.2.2.2.2.2.2.2.2.2.2.2.2.2.2.2.1 (fa a.1.2.2.2.1) (0:Int))))))
 (cond (decide (a.1.2.2.2.2.1=(16:Int)))
 (K (decide ((gx a.2.2.2.2.2.2.2.2.2.2.2.2.2.2.2.2.2.1 (fa a.1.2.2.1) (0:Int))<(gx a.2.2.2.2.2.2.2.2.2.2.2.2.2.2.2.2.2.1 (fa a.1.2.2.2.1) (0:Int)))))
 (cond (decide (a.1.2.2.2.2.1=(17:Int)))
 (K (decide ((gx a.2.2.2.2.2.2.2.2.2.2.2.2.2.2.2.2.2.1 (fa a.1.2.2.1) (0:Int))<=(gx a.2.2.2.2.2.2.2.2.2.2.2.2.2.2.2.2.2.1 (fa a.1.2.2.2.1) (0:Int)))))
 (cond (decide (a.1.2.2.2.2.1=(18:Int)))
 (K (decide ((gx a.2.2.2.2.2.2.2.2.2.2.2.2.2.2.2.2.2.1 (fa a.1.2.2.2.1) (0:Int))<(gx a.2.2.2.2.2.2.2.2.2.2.2.2.2.2.2.2.2.1 (fa a.1.2.2.1) (0:Int)))))
 (K (decide ((gx a.2.2.2.2.2.2.2.2.2.2.2.2.2.2.2.2.2.1 (fa a.1.2.2.2.1) (0:Int))<=(gx a.2.2.2.2.2.2.2.2.2.2.2.2.2.2.2.2.2.1 (fa a.1.2.2.1) (0:Int)))))))))))
def Cn:=fun a=>tw a some
def ET:Spec:=lK.sp Cn
noncomputable def PZ:Env:=eE [] (yb []) qN
theorem FT:OK (1) 128 (lK.sp Cn):=
 fO (d:=0) (env:=PZ) (Da cn) (fn:=Tryz.f128) (mc:=@tw) (by intros;simp only[Cn,tw,nn]) (Fa:=[3])
def kK:FS (U2) (Bool×Int×Int)where
 sk:=⟨(.cons (.ptr 0 0) .nil),[.Ya Md,.cells .i,.deep .i,.cells (.slice .i)],0⟩
 a:=fun u=>(Eg u.2.1 (r5 u.2.1.t12 (u.2.2.1,u.t3.1,u.t4.1)))
 o:=fun Z a r K=>kv K (.bool) [.Ya Md,.cells .i,.deep .i,.cells (.slice .i)] 0 r.1 ((r9 a (r.2.1,a.t10.1,(),r.2.2,(r4 a.t12 ((),(),(),())))),a.t16.1,a.t17.1,a.t18,())
def cC{X:Type}(a:U2)(K:(Bool×Int×Int)->Option X):Option X:=
 cond (decide (a.2.2.2.2.2.2.2.2.2.1<=(0:Int)))
 (K (false,a.2.2.2.2.2.2.2.2.2.1,4))
 (K (true,(Ea (a.2.2.2.2.2.2.2.2.2.1-(1:Int))),a.2.2.2.2.2.2.2.2.2.2.2.1))
def jl:=fun a=>cC a some
def BT:Spec:=kK.sp jl
noncomputable def OZ:Env:=eE [] (yb []) qN
theorem DT:OK (1) 129 (kK.sp jl):=
 fO (d:=0) (env:=OZ) (Da cn) (fn:=Tryz.f129) (mc:=@cC) (by intros;simp only[jl,cC,nn])
def jK:FS (U2) ((List Int))where
 sk:=⟨(.cons (.ptr 0 0) .nil),[.Ya Md,.cells .i,.deep .i,.cells (.slice .i)],4⟩
 a:=fun u=>(Eg u.2.1 (r5 u.2.1.t12 (u.2.2.1,u.t3.1,u.t4.1)))
 o:=fun Z a r K=>kv K (.lit .i) [.Ya Md,.cells .i,.deep .i,.cells (.slice .i)] 4 r ((Eg a ((),(r5 a.t11 ((),(),(),())))),a.t16.1,a.t17.1,a.t18,())
def sw{X:Type}(a:U2)(K:(List Int)->Option X):Option X:=
 ask (decide (0<=(0:Int))&&decide ((0:Int)<=(nt (da a.2.2.2.2.2.1)))&&decide ((nt (da a.2.2.2.2.2.1))<=(nt (da a.2.2.2.2.2.2.2.2.2.2.2.2.2.2.2.2.1)))) (ask (decide ((da (qk 0 (fa (nt (da a.2.2.2.2.2.1))-0) a.2.2.2.2.2.2.2.2.2.2.2.2.2.2.2.2.1)) * 8<=70368744177664)&&decide ((da (qk 0 (fa (nt (da a.2.2.2.2.2.1))-0) a.2.2.2.2.2.2.2.2.2.2.2.2.2.2.2.2.1))<9223372036854775808)) (K (qk 0 (fa (nt (da a.2.2.2.2.2.1))-0) a.2.2.2.2.2.2.2.2.2.2.2.2.2.2.2.2.1)))
def Bn:=fun a=>sw a some
def yT:Spec:=jK.sp Bn
noncomputable def LZ:Env:=eE [] (yb []) qN
theorem zT:OK (1) 130 (jK.sp Bn):=
 fO (d:=0) (env:=LZ) (Da cn) (fn:=Tryz.f130) (mc:=@sw) (by intros;simp only[Bn,sw,nn]) (sh:=(.lit (.int .i64))) (fz:=true)
def iK:FS (Qt) (Int×Int)where
 sk:=⟨(cL [(.ptr 0 0),(.agg Mb)]),[.Ya Md,.cells .i,.deep .i,.cells (.slice .i)],0⟩
 a:=fun u=>((q8 u.1.2.1),(Eg u.2.1 (r5 u.2.1.t12 (u.2.2.1,u.t3.1,u.t4.1))))
 o:=fun Z a r K=>kv K (.Sc Gg) [.Ya Md,.cells .i,.deep .i,.cells (.slice .i)] 0 (r.1,r.2,()) ((Eg a.2 ((),(r5 a.t12 ((),(),(),())))),a.t17.1,a.t18.1,a.t19,())
def fl:PD (Int×Int×Bool×((List Wa)×(Int×(Int×(Int×((List Cb)×((List Zb)×((List Cb)×((List Aa)×(MF)))))))))) (Int)where
 sk:=⟨[(6,.i),(8,.i),(40,.v .bool)],[],[.Ya Md,.cells .i,.deep .i,.cells (.slice .i)],0,4⟩
 p:=fun u=>(r3 u.1 (u.2.2.1.1,(u.2.2.1.2.1,(u.2.2.1.2.2.1,(u.2.2.1.t3.1,(u.2.2.1.t4.1,(u.2.2.1.t5.1,(u.2.2.1.t6.1,(u.2.2.1.t7.1,(u.2.2.1.t8.1,(u.2.2.1.t9.1,(u.2.2.1.t10.1,(u.2.2.1.t12.1,(u.2.2.1.t13.1,(u.2.2.1.t14.1,(u.2.2.1.t15.1,(u.2.2.1.t16.1,(q3 u.t3))))))))))))))))))
 st:=fun Y p ke=>cond p.2.2.1
  (ke ((Ea ((0:Int)-p.1))))
  (ke (p.2.1))
 o:=fun Z p e K=>so K (.normal) ⟨[(8,.i)],[],[.Ya Md,.cells .i,.deep .i,.cells (.slice .i)],0,4⟩ ((e,()),(),(Eg p.t3 ((),(r5 p.t14 ((),(),(),())))),p.t19.1,p.t20.1,p.t21,())
 Dd:=⟨[6,8,40],[],[],[]⟩
 pe:=[(.normal,⟨[8],[],[],[]⟩)]
def jj:PD (Int×Int×((List Wa)×(Int×(Int×(Int×((List Cb)×((List Zb)×((List Cb)×((List Aa)×(MF)))))))))) (Bool)where
 sk:=⟨[(6,.i),(7,.i)],[],[.Ya Md,.cells .i,.deep .i,.cells (.slice .i)],0,4⟩
 p:=fun u=>(u.1.1,u.1.2.1,u.2.2.1.1,(u.2.2.1.2.1,(u.2.2.1.2.2.1,(u.2.2.1.t3.1,(u.2.2.1.t4.1,(u.2.2.1.t5.1,(u.2.2.1.t6.1,(u.2.2.1.t7.1,(u.2.2.1.t8.1,(u.2.2.1.t9.1,(u.2.2.1.t10.1,(u.2.2.1.t12.1,(u.2.2.1.t13.1,(u.2.2.1.t14.1,(u.2.2.1.t15.1,(u.2.2.1.t16.1,(q3 u.t3)))))))))))))))))
 st:=fun Y p ke=>cond (decide (p.1=(-2147483648:Int)))
  (ke ((decide (p.2.1=(-1:Int)))))
  (ke (false))
 o:=fun Z p e K=>so K (.normal) ⟨[(6,.i),(7,.i),(74,.v .bool)],[],[.Ya Md,.cells .i,.deep .i,.cells (.slice .i)],0,4⟩ ((p.1,p.2.1,e,()),(),(Eg p.2.2 ((),(r5 p.t13 ((),(),(),())))),p.t18.1,p.t19.1,p.t20,())
 Dd:=⟨[6,7],[],[],[]⟩
 pe:=[(.normal,⟨[6,7,74],[],[],[]⟩)]
def Xk:PD (Int×Int×Int×Int×Bool×(Wa×((List Wa)×(Int×(Int×(Int×((List Cb)×((List Zb)×((List Cb)×((List Aa)×(MF))))))))))) ((Int) ⊕ (Int×Int))where
 sk:=⟨[(3,.loc 0 0),(6,.i),(7,.i),(8,.i),(31,.i),(53,.v .bool)],[Mb],[.Ya Md,.cells .i,.deep .i,.cells (.slice .i)],0,4⟩
 p:=fun u=>(r5 u.1 ((q8 u.2.1.1),(u.2.2.1.1,(u.2.2.1.2.1,(u.2.2.1.2.2.1,(u.2.2.1.t3.1,(u.2.2.1.t4.1,(u.2.2.1.t5.1,(u.2.2.1.t6.1,(u.2.2.1.t7.1,(u.2.2.1.t8.1,(u.2.2.1.t9.1,(u.2.2.1.t10.1,(u.2.2.1.t12.1,(u.2.2.1.t13.1,(u.2.2.1.t14.1,(u.2.2.1.t15.1,(u.2.2.1.t16.1,(q3 u.t3)))))))))))))))))))
 st:=fun Y p ke=>cond p.2.2.2.2.1
  (ke (.inl (Ea (p.1 * p.2.1))))
  (cond (decide (p.2.2.2.1=(7:Int)))
  (cond (decide (p.2.1=(0:Int)))
  (ke (.inr ((0,2))))
  (cond (decide (p.2.2.2.2.2.1.1=(8:Int)))
  (cond (decide (p.2.1=(0:Int)))
  (none)
  (ke (.inr (((Int.tmod p.1 p.2.1),0)))))
  ((jj.m (p.1,p.2.1,p.2.2.2.2.2.2)).bind fun e1=>
  cond e1
  (ke (.inr ((0,3))))
  (cond (decide (p.2.1=(0:Int)))
  (none)
  (ke (.inr (((Ea (Int.tdiv p.1 p.2.1)),0))))))))
  (cond (decide (p.2.2.2.1=(8:Int)))
  (cond (decide (p.2.1=(0:Int)))
  (ke (.inr ((0,2))))
  (cond (decide (p.2.2.2.2.2.1.1=(8:Int)))
  (cond (decide (p.2.1=(0:Int)))
  (none)
  (ke (.inr (((Int.tmod p.1 p.2.1),0)))))
  ((jj.m (p.1,p.2.1,p.2.2.2.2.2.2)).bind fun e2=>
  cond e2
  (ke (.inr ((0,3))))
  (cond (decide (p.2.1=(0:Int)))
  (none)
  (ke (.inr (((Ea (Int.tdiv p.1 p.2.1)),0))))))))
  (cond (decide (p.2.2.2.1=(9:Int)))
  (cond (decide (p.1<p.2.1))
  (ke (.inr ((p.1,0))))
  (ke (.inr ((p.2.1,0)))))
  (cond (decide (p.2.2.2.1=(10:Int)))
  (cond (decide (p.2.1<p.1))
  (ke (.inr ((p.1,0))))
  (ke (.inr ((p.2.1,0)))))
  (ke (.inl (p.2.2.1)))))))
 o:=fun Z p e K=>Sum.elim (fun e=>so K (.normal) ⟨[(8,.i)],[],[.Ya Md,.cells .i,.deep .i,.cells (.slice .i)],0,4⟩ ((e,()),(),(Eg p.t6 ((),(r5 p.t17 ((),(),(),())))),p.t22.1,p.t23.1,p.t24,())) (fun e=>so K (.ret) ⟨[(4,.i),(5,.i)],[],[.Ya Md,.cells .i,.deep .i,.cells (.slice .i)],0,4⟩ ((e.1,e.2,()),(),(Eg p.t6 ((),(r5 p.t17 ((),(),(),())))),p.t22.1,p.t23.1,p.t24,())) e
 Dd:=⟨[3,6,7,8,31,53],[],[],[]⟩
 pe:=[(.normal,⟨[8],[],[],[]⟩),(.ret,⟨[4,5],[],[],[]⟩)]
def Yk:PD (Int×Int×Int×Int×Bool×(Wa×((List Wa)×(Int×(Int×(Int×((List Cb)×((List Zb)×((List Cb)×((List Aa)×(MF))))))))))) ((Int) ⊕ (Int×Int))where
 sk:=⟨[(3,.loc 0 0),(6,.i),(7,.i),(8,.i),(31,.i),(48,.v .bool)],[Mb],[.Ya Md,.cells .i,.deep .i,.cells (.slice .i)],0,4⟩
 p:=fun u=>(r5 u.1 ((q8 u.2.1.1),(u.2.2.1.1,(u.2.2.1.2.1,(u.2.2.1.2.2.1,(u.2.2.1.t3.1,(u.2.2.1.t4.1,(u.2.2.1.t5.1,(u.2.2.1.t6.1,(u.2.2.1.t7.1,(u.2.2.1.t8.1,(u.2.2.1.t9.1,(u.2.2.1.t10.1,(u.2.2.1.t12.1,(u.2.2.1.t13.1,(u.2.2.1.t14.1,(u.2.2.1.t15.1,(u.2.2.1.t16.1,(q3 u.t3)))))))))))))))))))
 st:=fun Y p ke=>cond p.2.2.2.2.1
  (ke (.inl (Ea (p.1-p.2.1))))
  ((Xk.m (p.1,p.2.1,p.2.2.1,p.2.2.2.1,(decide (p.2.2.2.1=(6:Int))),p.2.2.2.2.2)).bind fun e1=>
  Sum.elim (fun e2=>ke (.inl (e2)))
  (fun e3=>ke (.inr ((e3.1,e3.2)))) e1)
 o:=fun Z p e K=>Sum.elim (fun e=>so K (.normal) ⟨[(8,.i)],[],[.Ya Md,.cells .i,.deep .i,.cells (.slice .i)],0,4⟩ ((e,()),(),(Eg p.t6 ((),(r5 p.t17 ((),(),(),())))),p.t22.1,p.t23.1,p.t24,())) (fun e=>so K (.ret) ⟨[(4,.i),(5,.i)],[],[.Ya Md,.cells .i,.deep .i,.cells (.slice .i)],0,4⟩ ((e.1,e.2,()),(),(Eg p.t6 ((),(r5 p.t17 ((),(),(),())))),p.t22.1,p.t23.1,p.t24,())) e
 Dd:=⟨[3,6,7,8,31,48],[],[],[]⟩
 pe:=[(.normal,⟨[8],[],[],[]⟩),(.ret,⟨[4,5],[],[],[]⟩)]
def Zk:PD (Int×Int×Int×Int×Bool×(Wa×((List Wa)×(Int×(Int×(Int×((List Cb)×((List Zb)×((List Cb)×((List Aa)×(MF))))))))))) ((Int) ⊕ (Int×Int))where
 sk:=⟨[(3,.loc 0 0),(6,.i),(7,.i),(8,.i),(31,.i),(43,.v .bool)],[Mb],[.Ya Md,.cells .i,.deep .i,.cells (.slice .i)],0,4⟩
 p:=fun u=>(r5 u.1 ((q8 u.2.1.1),(u.2.2.1.1,(u.2.2.1.2.1,(u.2.2.1.2.2.1,(u.2.2.1.t3.1,(u.2.2.1.t4.1,(u.2.2.1.t5.1,(u.2.2.1.t6.1,(u.2.2.1.t7.1,(u.2.2.1.t8.1,(u.2.2.1.t9.1,(u.2.2.1.t10.1,(u.2.2.1.t12.1,(u.2.2.1.t13.1,(u.2.2.1.t14.1,(u.2.2.1.t15.1,(u.2.2.1.t16.1,(q3 u.t3)))))))))))))))))))
 st:=fun Y p ke=>cond p.2.2.2.2.1
  (ke (.inl (Ea (p.1+p.2.1))))
  ((Yk.m (p.1,p.2.1,p.2.2.1,p.2.2.2.1,(decide (p.2.2.2.1=(5:Int))),p.2.2.2.2.2)).bind fun e1=>
  Sum.elim (fun e2=>ke (.inl (e2)))
  (fun e3=>ke (.inr ((e3.1,e3.2)))) e1)
 o:=fun Z p e K=>Sum.elim (fun e=>so K (.normal) ⟨[(8,.i)],[],[.Ya Md,.cells .i,.deep .i,.cells (.slice .i)],0,4⟩ ((e,()),(),(Eg p.t6 ((),(r5 p.t17 ((),(),(),())))),p.t22.1,p.t23.1,p.t24,())) (fun e=>so K (.ret) ⟨[(4,.i),(5,.i)],[],[.Ya Md,.cells .i,.deep .i,.cells (.slice .i)],0,4⟩ ((e.1,e.2,()),(),(Eg p.t6 ((),(r5 p.t17 ((),(),(),())))),p.t22.1,p.t23.1,p.t24,())) e
 Dd:=⟨[3,6,7,8,31,43],[],[],[]⟩
 pe:=[(.normal,⟨[8],[],[],[]⟩),(.ret,⟨[4,5],[],[],[]⟩)]
def gl:PD (Int×Int×Int×Int×Bool×(Wa×((List Wa)×(Int×(Int×(Int×((List Cb)×((List Zb)×((List Cb)×((List Aa)×(MF))))))))))) ((Int) ⊕ (Int×Int))where
 sk:=⟨[(3,.loc 0 0),(6,.i),(7,.i),(8,.i),(31,.i),(36,.v .bool)],[Mb],[.Ya Md,.cells .i,.deep .i,.cells (.slice .i)],0,4⟩
 p:=fun u=>(r5 u.1 ((q8 u.2.1.1),(u.2.2.1.1,(u.2.2.1.2.1,(u.2.2.1.2.2.1,(u.2.2.1.t3.1,(u.2.2.1.t4.1,(u.2.2.1.t5.1,(u.2.2.1.t6.1,(u.2.2.1.t7.1,(u.2.2.1.t8.1,(u.2.2.1.t9.1,(u.2.2.1.t10.1,(u.2.2.1.t12.1,(u.2.2.1.t13.1,(u.2.2.1.t14.1,(u.2.2.1.t15.1,(u.2.2.1.t16.1,(q3 u.t3)))))))))))))))))))
 st:=fun Y p ke=>cond p.2.2.2.2.1
  ((fl.m (p.1,p.1,(decide (p.1<(0:Int))),p.2.2.2.2.2.2)).bind fun e1=>
  ke (.inl (e1)))
  ((Zk.m (p.1,p.2.1,p.2.2.1,p.2.2.2.1,(decide (p.2.2.2.1=(4:Int))),p.2.2.2.2.2)).bind fun e2=>
  Sum.elim (fun e3=>ke (.inl (e3)))
  (fun e4=>ke (.inr ((e4.1,e4.2)))) e2)
 o:=fun Z p e K=>Sum.elim (fun e=>so K (.normal) ⟨[(8,.i)],[],[.Ya Md,.cells .i,.deep .i,.cells (.slice .i)],0,4⟩ ((e,()),(),(Eg p.t6 ((),(r5 p.t17 ((),(),(),())))),p.t22.1,p.t23.1,p.t24,())) (fun e=>so K (.ret) ⟨[(4,.i),(5,.i)],[],[.Ya Md,.cells .i,.deep .i,.cells (.slice .i)],0,4⟩ ((e.1,e.2,()),(),(Eg p.t6 ((),(r5 p.t17 ((),(),(),())))),p.t22.1,p.t23.1,p.t24,())) e
 Dd:=⟨[3,6,7,8,31,36],[],[],[]⟩
 pe:=[(.normal,⟨[8],[],[],[]⟩),(.ret,⟨[4,5],[],[],[]⟩)]
def zn:PD (Int×Int×Int×Int×Bool×(Wa×((List Wa)×(Int×(Int×(Int×((List Cb)×((List Zb)×((List Cb)×((List Aa)×(MF))))))))))) ((Int) ⊕ (Int×Int))where
 sk:=⟨[(3,.loc 0 0),(6,.i),(7,.i),(8,.i),(31,.i),(32,.v .bool)],[Mb],[.Ya Md,.cells .i,.deep .i,.cells (.slice .i)],0,4⟩
 p:=fun u=>(r5 u.1 ((q8 u.2.1.1),(u.2.2.1.1,(u.2.2.1.2.1,(u.2.2.1.2.2.1,(u.2.2.1.t3.1,(u.2.2.1.t4.1,(u.2.2.1.t5.1,(u.2.2.1.t6.1,(u.2.2.1.t7.1,(u.2.2.1.t8.1,(u.2.2.1.t9.1,(u.2.2.1.t10.1,(u.2.2.1.t12.1,(u.2.2.1.t13.1,(u.2.2.1.t14.1,(u.2.2.1.t15.1,(u.2.2.1.t16.1,(q3 u.t3)))))))))))))))))))
 st:=fun Y p ke=>cond p.2.2.2.2.1
  (ke (.inl (Ea ((0:Int)-p.1))))
  ((gl.m (p.1,p.2.1,p.2.2.1,p.2.2.2.1,(decide (p.2.2.2.1=(3:Int))),p.2.2.2.2.2)).bind fun e1=>
  Sum.elim (fun e2=>ke (.inl (e2)))
  (fun e3=>ke (.inr ((e3.1,e3.2)))) e1)
 o:=fun Z p e K=>Sum.elim (fun e=>so K (.normal) ⟨[(8,.i)],[],[.Ya Md,.cells .i,.deep .i,.cells (.slice .i)],0,4⟩ ((e,()),(),(Eg p.t6 ((),(r5 p.t17 ((),(),(),())))),p.t22.1,p.t23.1,p.t24,())) (fun e=>so K (.ret) ⟨[(4,.i),(5,.i)],[],[.Ya Md,.cells .i,.deep .i,.cells (.slice .i)],0,4⟩ ((e.1,e.2,()),(),(Eg p.t6 ((),(r5 p.t17 ((),(),(),())))),p.t22.1,p.t23.1,p.t24,())) e
 Dd:=⟨[3,6,7,8,31,32],[],[],[]⟩
 pe:=[(.normal,⟨[8],[],[],[]⟩),(.ret,⟨[4,5],[],[],[]⟩)]
def ij:PD (Int×((List Wa)×(Int×(Int×(Int×((List Cb)×((List Zb)×((List Cb)×((List Aa)×(MF)))))))))) (Bool)where
 sk:=⟨[(8,.i)],[],[.Ya Md,.cells .i,.deep .i,.cells (.slice .i)],0,4⟩
 p:=fun u=>(u.1.1,u.2.2.1.1,(u.2.2.1.2.1,(u.2.2.1.2.2.1,(u.2.2.1.t3.1,(u.2.2.1.t4.1,(u.2.2.1.t5.1,(u.2.2.1.t6.1,(u.2.2.1.t7.1,(u.2.2.1.t8.1,(u.2.2.1.t9.1,(u.2.2.1.t10.1,(u.2.2.1.t12.1,(u.2.2.1.t13.1,(u.2.2.1.t14.1,(u.2.2.1.t15.1,(u.2.2.1.t16.1,(q3 u.t3)))))))))))))))))
 st:=fun Y p ke=>cond (decide (p.1<(-2147483648:Int)))
  (ke (true))
  (ke ((decide ((2147483647:Int)<p.1))))
 o:=fun Z p e K=>so K (.normal) ⟨[(8,.i),(97,.v .bool)],[],[.Ya Md,.cells .i,.deep .i,.cells (.slice .i)],0,4⟩ ((p.1,e,()),(),(Eg p.2 ((),(r5 p.t12 ((),(),(),())))),p.t17.1,p.t18.1,p.t19,())
 Dd:=⟨[8],[],[],[]⟩
 pe:=[(.normal,⟨[8,97],[],[],[]⟩)]
def Lq{X:Type}(a:Qt)(K:(Int×Int)->Option X):Option X:=
 cond (decide (a.1.1=(1:Int)))
 (K (a.1.2.2.2.2.1,0))
 (ask (V.ja a.1.2.2.1 (da a.2.2.2.2.2.2.2.2.2.2.2.2.2.2.2.2.2.1)) (ask (V.ja a.1.2.2.2.1 (da a.2.2.2.2.2.2.2.2.2.2.2.2.2.2.2.2.2.1)) ((zn.m ((gx a.2.2.2.2.2.2.2.2.2.2.2.2.2.2.2.2.2.1 (fa a.1.2.2.1) (0:Int)),(gx a.2.2.2.2.2.2.2.2.2.2.2.2.2.2.2.2.2.1 (fa a.1.2.2.2.1) (0:Int)),0,a.1.1,(decide (a.1.1=(2:Int))),a)).bind fun e1=>
 Sum.elim (fun e2=>(ij.m (e2,a.2)).bind fun e3=>
 cond e3
 (K (0,1))
 (K (e2,0)))
 (fun e4=>K (e4.1,e4.2)) e1)))
def Wk:=fun a=>Lq a some
def wT:Spec:=iK.sp Wk
noncomputable def Gc:Env:=eE [1000008,1000010,1000012,1000014,1000016,1000018,2000025,2000036] (yb []) (qL 1000012 fl.q (qL 2000025 jj.q (qL 1000018 Xk.q (qL 1000016 Yk.q (qL 1000014 Zk.q (qL 1000010 gl.q (qL 1000008 zn.q (qL 2000036 ij.q qN))))))))
theorem uD:LS C Gc true [3] 99 (pc [1,1,1,1,1,0,1,0,1,1,1,0,1,1] Tryz.f131):=fun hc=>
 pN (n':=fun p=>((r3 p ()),(),(Eg p.t3 ((),(r5 p.t14 ((),(),(),())))),p.t19.1,p.t20.1,p.t21,())) (Jd:=⟨Vf Gc.join 1000012,Gc.call,Gc.loop⟩) hc rfl fl (by intros;simp only[fl,PD.m,nn])
theorem qD:LS C Gc true [3] 99 (pc [1,1,1,1,1,0,1,0,1,1,1,1,1,1,1,1,1,1,1,0,1,1,0,0] Tryz.f131):=fun hc=>
 pN (n':=fun p=>((p.1,p.2.1,()),(),(Eg p.2.2 ((),(r5 p.t13 ((),(),(),())))),p.t18.1,p.t19.1,p.t20,())) (Jd:=⟨Vf Gc.join 2000025,Gc.call,Gc.loop⟩) hc rfl jj (by intros;simp only[jj,PD.m,nn])
theorem rD:LS C Gc true [3] 99 (pc [1,1,1,1,1,0,1,0,1,1,1,1,1,1,1,1,1] Tryz.f131):=fun hc=>
 pN (n':=fun p=>((r5 p ()),((r7 p.t5.1 (p.t5.1.t7,())),()),(Eg p.t6 ((),(r5 p.t17 ((),(),(),())))),p.t22.1,p.t23.1,p.t24,())) (Jd:=⟨Vf Gc.join 1000018,Gc.call,Gc.loop⟩) hc rfl Xk (by intros;simp only[Xk,PD.m,nn]) (hl:=(nc (by kernel_rfl) (Ua (qD hc) Kb)))
theorem sD:LS C Gc true [3] 99 (pc [1,1,1,1,1,0,1,0,1,1,1,1,1,1,1] Tryz.f131):=fun hc=>
 pN (n':=fun p=>((r5 p ()),((r7 p.t5.1 (p.t5.1.t7,())),()),(Eg p.t6 ((),(r5 p.t17 ((),(),(),())))),p.t22.1,p.t23.1,p.t24,())) (Jd:=⟨Vf Gc.join 1000016,Gc.call,Gc.loop⟩) hc rfl Yk (by intros;simp only[Yk,PD.m,nn]) (hl:=(nc (by kernel_rfl) (Ua (rD hc) Kb)))
theorem tD:LS C Gc true [3] 99 (pc [1,1,1,1,1,0,1,0,1,1,1,1,1] Tryz.f131):=fun hc=>
 pN (n':=fun p=>((r5 p ()),((r7 p.t5.1 (p.t5.1.t7,())),()),(Eg p.t6 ((),(r5 p.t17 ((),(),(),())))),p.t22.1,p.t23.1,p.t24,())) (Jd:=⟨Vf Gc.join 1000014,Gc.call,Gc.loop⟩) hc rfl Zk (by intros;simp only[Zk,PD.m,nn]) (hl:=(nc (by kernel_rfl) (Ua (sD hc) Kb)))
theorem vD:LS C Gc true [3] 99 (pc [1,1,1,1,1,0,1,0,1,1,1] Tryz.f131):=fun hc=>
 pN (n':=fun p=>((r5 p ()),((r7 p.t5.1 (p.t5.1.t7,())),()),(Eg p.t6 ((),(r5 p.t17 ((),(),(),())))),p.t22.1,p.t23.1,p.t24,())) (Jd:=⟨Vf Gc.join 1000010,Gc.call,Gc.loop⟩) hc rfl gl (by intros;simp only[gl,PD.m,nn]) (hl:=(nc (by kernel_rfl) (Ua (uD hc) (Ua (tD hc) Kb))))
theorem EH:LS C Gc true [3] 99 (pc [1,1,1,1,1,0,1,0,1] Tryz.f131):=fun hc=>
 pN (n':=fun p=>((r5 p ()),((r7 p.t5.1 (p.t5.1.t7,())),()),(Eg p.t6 ((),(r5 p.t17 ((),(),(),())))),p.t22.1,p.t23.1,p.t24,())) (Jd:=⟨Vf Gc.join 1000008,Gc.call,Gc.loop⟩) hc rfl zn (by intros;simp only[zn,PD.m,nn]) (hl:=(nc (by kernel_rfl) (Ua (vD hc) Kb)))
theorem pD:LS C Gc true [3] 99 (pc [1,1,1,1,1,1,0,0] Tryz.f131):=fun hc=>
 pN (n':=fun p=>((p.1,()),(),(Eg p.2 ((),(r5 p.t12 ((),(),(),())))),p.t17.1,p.t18.1,p.t19,())) (Jd:=⟨Vf Gc.join 2000036,Gc.call,Gc.loop⟩) hc rfl ij (by intros;simp only[ij,PD.m,nn])
theorem xT:OK (1) 131 (iK.sp Wk):=
 fO (d:=0) (env:=Gc) (Da cn) (fn:=Tryz.f131) (mc:=@Lq) (by intros;simp only[Wk,Lq,nn]) (Fa:=[3]) (hl:=fun hc=>(nc (by kernel_rfl) (Ua (EH hc) (Ua (pD hc) Kb))))
def pK:FS (U2) ((Y44) ⊕ (Y45))where
 sk:=⟨(.cons (.ptr 0 0) .nil),[.Ya Md,.cells .i,.deep .i,.cells (.slice .i)],0⟩
 a:=fun u=>(Eg u.2.1 (r5 u.2.1.t12 (u.2.2.1,u.t3.1,u.t4.1)))
 o:=fun Z a r K=>Sum.elim (fun e=>kv K (.Sc .nil) [.Ya Md,.cells .i,.deep .i,.cells (.slice .i)] 0 () ((r9 a (e.1,a.t10.1,(),(r3 e.2 (a.t14.1,e.t4,(),(),(),())))),a.t16.1,a.t17.1,a.t18,())) (fun e=>kv K (.Sc .nil) [.Ya aJ,.cells .i,.deep .i,.dead,.cells (.slice .i)] 0 () ((r9 a (e.1,e.2.1,(),e.2.2.1,a.t12.1,a.t13.1,e.t3.1,e.t4.1,(),(),(),())),e.t5.1,e.t6.1,(),e.t7,())) r
def Bl:PD (Int×Int×Nat×(Wa×((List Wa)×(Int×(Int×(Int×((List Cb)×((List Zb)×((List Cb)×((List Aa)×(MF))))))))))) (Bool)where
 sk:=⟨[(0,.p 0 0),(2,.loc 0 0),(3,.i),(4,.i),(5,.v (.xp 2))],[Mb],[.Ya Md,.cells .i,.deep .i,.cells (.slice .i)],0,4⟩
 p:=fun u=>(r3 u.1.2 ((q8 u.2.1.1),(u.2.2.1.1,(u.2.2.1.2.1,(u.2.2.1.2.2.1,(u.2.2.1.t3.1,(u.2.2.1.t4.1,(u.2.2.1.t5.1,(u.2.2.1.t6.1,(u.2.2.1.t7.1,(u.2.2.1.t8.1,(u.2.2.1.t9.1,(u.2.2.1.t10.1,(u.2.2.1.t12.1,(u.2.2.1.t13.1,(u.2.2.1.t14.1,(u.2.2.1.t15.1,(u.2.2.1.t16.1,(q3 u.t3)))))))))))))))))))
 st:=fun Y p ke=>cond (decide (p.2.1<(0:Int)))
  (ke (true))
  (ke ((decide ((nt (da (gx p.2.2.2.2.2.2.2.2.2.2.2.2.2.2.2.2.2.2.2.2.2.1 p.2.2.1 [])))<=p.2.1))))
 o:=fun Z p e K=>so K (.normal) ⟨[(0,.p 0 0),(2,.loc 0 0),(3,.i),(4,.i),(5,.v (.xp 2)),(73,.v .bool)],[Mb],[.Ya Md,.cells .i,.deep .i,.cells (.slice .i)],0,4⟩ (((),(r3 p (e,()))),((r7 p.t3.1 (p.t3.1.t7,())),()),(Eg p.t4 ((),(r5 p.t15 ((),(),(),())))),p.t20.1,p.t21.1,p.t22,())
 Dd:=⟨[0,2,3,4,5],[],[],[]⟩
 pe:=[(.normal,⟨[0,2,3,4,5,73],[],[],[]⟩)]
def Al:PD (Int×Int×Wa×(List Wa)×Int×Int×Int×(List Cb)×(List Zb)×(List Cb)×(List Aa)×(List Int)×Int×Int×Int×Int×Int×Int×Int×((List Int)×(Y50))) (Bool)where
 sk:=⟨[(0,.p 0 0),(2,.loc 0 0),(3,.i),(6,.i)],[Mb],[.Ya Md,.cells .i,.deep .i,.cells (.slice .i)],0,4⟩
 p:=fun u=>(u.1.2.1,u.1.2.2.1,(q8 u.2.1.1),(Eg u.2.2.1 (r5 u.2.2.1.t12 (q3 u.t3))))
 st:=fun Y p ke=>ask (V.ja p.2.2.1.2.2.1 (da p.2.2.2.2.2.2.2.1)) (cond (decide (p.2.1<(gx p.2.2.2.2.2.2.2.1 (fa p.2.2.1.2.2.1) fb).2.2.1))
  (ke (true))
  (ask (V.ja p.2.2.1.2.2.1 (da p.2.2.2.2.2.2.2.1)) (ke ((decide ((gx p.2.2.2.2.2.2.2.1 (fa p.2.2.1.2.2.1) fb).2.2.2<p.2.1))))))
 o:=fun Z p e K=>so K (.normal) ⟨[(0,.p 0 0),(2,.loc 0 0),(3,.i),(6,.i),(150,.v .bool)],[Mb],[.Ya Md,.cells .i,.deep .i,.cells (.slice .i)],0,4⟩ (((),p.1,p.2.1,e,()),((r7 p.2.2.1 (p.2.2.1.t7,())),()),(Eg p.t3 ((),(r5 p.t14 ((),(),(),())))),p.t19.1,p.t20.1,p.t21,())
 Dd:=⟨[0,2,3,6],[],[],[]⟩
 pe:=[(.normal,⟨[0,2,3,6,150],[],[],[]⟩)]
def xl:PD (Int×Int×Nat×(Wa×((List Wa)×(Int×(Int×(Int×((List Cb)×((List Zb)×((List Cb)×((List Aa)×(MF))))))))))) (Bool)where
 sk:=⟨[(0,.p 0 0),(2,.loc 0 0),(3,.i),(7,.i),(8,.v (.xp 2))],[Mb],[.Ya Md,.cells .i,.deep .i,.cells (.slice .i)],0,4⟩
 p:=fun u=>(r3 u.1.2 ((q8 u.2.1.1),(u.2.2.1.1,(u.2.2.1.2.1,(u.2.2.1.2.2.1,(u.2.2.1.t3.1,(u.2.2.1.t4.1,(u.2.2.1.t5.1,(u.2.2.1.t6.1,(u.2.2.1.t7.1,(u.2.2.1.t8.1,(u.2.2.1.t9.1,(u.2.2.1.t10.1,(u.2.2.1.t12.1,(u.2.2.1.t13.1,(u.2.2.1.t14.1,(u.2.2.1.t15.1,(u.2.2.1.t16.1,(q3 u.t3)))))))))))))))))))
 st:=fun Y p ke=>cond (decide (p.2.1<(0:Int)))
  (ke (true))
  (ke ((decide ((nt (da (gx p.2.2.2.2.2.2.2.2.2.2.2.2.2.2.2.2.2.2.2.2.2.1 p.2.2.1 [])))<=p.2.1))))
 o:=fun Z p e K=>so K (.normal) ⟨[(0,.p 0 0),(2,.loc 0 0),(3,.i),(7,.i),(8,.v (.xp 2)),(229,.v .bool)],[Mb],[.Ya Md,.cells .i,.deep .i,.cells (.slice .i)],0,4⟩ (((),(r3 p (e,()))),((r7 p.t3.1 (p.t3.1.t7,())),()),(Eg p.t4 ((),(r5 p.t15 ((),(),(),())))),p.t20.1,p.t21.1,p.t22,())
 Dd:=⟨[0,2,3,7,8],[],[],[]⟩
 pe:=[(.normal,⟨[0,2,3,7,8,229],[],[],[]⟩)]
def El:PD (Int×Bool×(Wa×((List Wa)×(Int×(Int×(Int×((List Cb)×((List Zb)×((List Cb)×((List Aa)×(MF))))))))))) (Int)where
 sk:=⟨[(0,.p 0 0),(2,.loc 0 0),(3,.i),(272,.v .bool)],[Mb],[.Ya Md,.cells .i,.deep .i,.cells (.slice .i)],0,4⟩
 p:=fun u=>(u.1.2.1,u.1.2.2.1,(q8 u.2.1.1),(u.2.2.1.1,(u.2.2.1.2.1,(u.2.2.1.2.2.1,(u.2.2.1.t3.1,(u.2.2.1.t4.1,(u.2.2.1.t5.1,(u.2.2.1.t6.1,(u.2.2.1.t7.1,(u.2.2.1.t8.1,(u.2.2.1.t9.1,(u.2.2.1.t10.1,(u.2.2.1.t12.1,(u.2.2.1.t13.1,(u.2.2.1.t14.1,(u.2.2.1.t15.1,(u.2.2.1.t16.1,(q3 u.t3))))))))))))))))))
 st:=fun Y p ke=>cond p.2.1
  (ke (p.2.2.1.2.2.2.2.2.2.2))
  (ke (p.1))
 o:=fun Z p e K=>so K (.normal) ⟨[(0,.p 0 0),(3,.i)],[],[.Ya Md,.cells .i,.deep .i,.cells (.slice .i)],0,4⟩ (((),e,()),(),(Eg p.t3 ((),(r5 p.t14 ((),(),(),())))),p.t19.1,p.t20.1,p.t21,())
 Dd:=⟨[0,2,3,272],[],[],[]⟩
 pe:=[(.normal,⟨[0,3],[],[],[]⟩)]
def vl:PD (Int×((List Wa)×(Int×(Int×(Int×((List Cb)×((List Zb)×((List Cb)×((List Aa)×(MF)))))))))) (Bool)where
 sk:=⟨[(0,.p 0 0),(3,.i)],[],[.Ya Md,.cells .i,.deep .i,.cells (.slice .i)],0,4⟩
 p:=fun u=>(u.1.2.1,u.2.2.1.1,(u.2.2.1.2.1,(u.2.2.1.2.2.1,(u.2.2.1.t3.1,(u.2.2.1.t4.1,(u.2.2.1.t5.1,(u.2.2.1.t6.1,(u.2.2.1.t7.1,(u.2.2.1.t8.1,(u.2.2.1.t9.1,(u.2.2.1.t10.1,(u.2.2.1.t12.1,(u.2.2.1.t13.1,(u.2.2.1.t14.1,(u.2.2.1.t15.1,(u.2.2.1.t16.1,(q3 u.t3)))))))))))))))))
 st:=fun Y p ke=>cond (!(decide (p.2.2.2.2.1=(0:Int))))
  (ke ((decide (p.2.2.2.2.2.2.2.2.2.2.2.2.2.2.2.1=p.2.2.2.2.1))))
  (ke (false))
 o:=fun Z p e K=>so K (.normal) ⟨[(0,.p 0 0),(3,.i),(299,.v .bool)],[],[.Ya Md,.cells .i,.deep .i,.cells (.slice .i)],0,4⟩ (((),p.1,e,()),(),(Eg p.2 ((),(r5 p.t12 ((),(),(),())))),p.t17.1,p.t18.1,p.t19,())
 Dd:=⟨[0,3],[],[],[]⟩
 pe:=[(.normal,⟨[0,3,299],[],[],[]⟩)]
def Dl:PD (Int×Bool×(List Wa)×Int×Int×Int×(List Cb)×(List Zb)×(List Cb)×(List Aa)×(List Int)×Int×Int×Int×(Int×(Int×(Int×(Int×((List Int)×(Y50))))))) (((List (List Int))) ⊕ (Unit))where
 sk:=⟨[(0,.p 0 0),(3,.i),(313,.v .bool)],[],[.Ya Md,.cells .i,.deep .i,.cells (.slice .i)],0,4⟩
 p:=fun u=>(u.1.2.1,u.1.2.2.1,(Eg u.2.2.1 (u.2.2.1.t12.1,u.2.2.1.t13.1,(u.2.2.1.t14.1,(u.2.2.1.t15.1,(u.2.2.1.t16.1,(q3 u.t3)))))))
 st:=fun Y p ke=>cond p.2.1
  ((Bn (p.2.2.1,p.2.2.2.1,p.2.2.2.2.1,p.2.2.2.2.2.1,p.2.2.2.2.2.2.1,p.2.2.2.2.2.2.2.1,p.2.2.2.2.2.2.2.2.1,p.2.2.2.2.2.2.2.2.2.1,p.2.2.2.2.2.2.2.2.2.2.1,p.2.2.2.2.2.2.2.2.2.2.2.1,p.2.2.2.2.2.2.2.2.2.2.2.2.1,p.2.2.2.2.2.2.2.2.2.2.2.2.2.1,p.2.2.2.2.2.2.2.2.2.2.2.2.2.2.1,p.2.2.2.2.2.2.2.2.2.2.2.2.2.2.2.1,p.2.2.2.2.2.2.2.2.2.2.2.2.2.2.2.2.1,p.2.2.2.2.2.2.2.2.2.2.2.2.2.2.2.2.2.1,p.2.2.2.2.2.2.2.2.2.2.2.2.2.2.2.2.2.2.1,p.2.2.2.2.2.2.2.2.2.2.2.2.2.2.2.2.2.2.2.1,p.2.2.2.2.2.2.2.2.2.2.2.2.2.2.2.2.2.2.2.2)).bind fun r1=>
  ask (decide (((da p.2.2.2.2.2.2.2.2.2.2.2.2.2.2.2.2.2.2.2.2)+(da ([r1]:List (List Int)))) * 24<=70368744177664)&&decide (((da p.2.2.2.2.2.2.2.2.2.2.2.2.2.2.2.2.2.2.2.2)+(da ([r1]:List (List Int))))<9223372036854775808)) (ke (.inl (p.2.2.2.2.2.2.2.2.2.2.2.2.2.2.2.2.2.2.2.2++([r1]:List (List Int))))))
  (ke (.inr (())))
 o:=fun Z p e K=>Sum.elim (fun e=>so K (.normal) ⟨[(0,.p 0 0),(3,.i)],[],[.Ya aJ,.cells .i,.deep .i,.dead,.cells (.slice .i)],0,4⟩ (((),p.1,()),(),(Eg p.2.2 ((),(r5 p.t13 ((),(),(),())))),p.t18.1,p.t19.1,(),e,())) (fun e=>so K (.normal) ⟨[(0,.p 0 0),(3,.i)],[],[.Ya Md,.cells .i,.deep .i,.cells (.slice .i)],0,4⟩ (((),p.1,()),(),(Eg p.2.2 ((),(r5 p.t13 ((),(),(),())))),p.t18.1,p.t19.1,p.t20,())) e
 Dd:=⟨[0,3,313],[],[],[]⟩
 pe:=[(.normal,⟨[0,3],[],[],[]⟩)]
def Qe:PD (Int×Int×Bool×(Wa×((List Wa)×(Int×(Int×(Int×((List Cb)×((List Zb)×((List Cb)×((List Aa)×(MF))))))))))) ((Y46) ⊕ (Y14))where
 sk:=⟨[(0,.p 0 0),(2,.loc 0 0),(3,.i),(26,.i),(338,.v .bool)],[Mb],[.Ya Md,.cells .i,.deep .i,.cells (.slice .i)],0,4⟩
 p:=fun u=>(r3 u.1.2 ((q8 u.2.1.1),(u.2.2.1.1,(u.2.2.1.2.1,(u.2.2.1.2.2.1,(u.2.2.1.t3.1,(u.2.2.1.t4.1,(u.2.2.1.t5.1,(u.2.2.1.t6.1,(u.2.2.1.t7.1,(u.2.2.1.t8.1,(u.2.2.1.t9.1,(u.2.2.1.t10.1,(u.2.2.1.t12.1,(u.2.2.1.t13.1,(u.2.2.1.t14.1,(u.2.2.1.t15.1,(u.2.2.1.t16.1,(q3 u.t3)))))))))))))))))))
 st:=fun Y p ke=>cond p.2.2.1
  ((jl (p.2.2.2.2.1,p.2.2.2.2.2.1,p.2.2.2.2.2.2.1,p.2.2.2.2.2.2.2.1,p.2.2.2.2.2.2.2.2.1,p.2.2.2.2.2.2.2.2.2.1,p.2.2.2.2.2.2.2.2.2.2.1,p.2.2.2.2.2.2.2.2.2.2.2.1,p.2.2.2.2.2.2.2.2.2.2.2.2.1,p.2.2.2.2.2.2.2.2.2.2.2.2.2.1,p.2.2.2.2.2.2.2.2.2.2.2.2.2.2.1,p.2.2.2.2.2.2.2.2.2.2.2.2.2.2.2.1,p.2.2.2.2.2.2.2.2.2.2.2.2.2.2.2.2.1,p.2.2.2.2.2.2.2.2.2.2.2.2.2.2.2.2.2.1,p.2.2.2.2.2.2.2.2.2.2.2.2.2.2.2.2.2.2.1,p.2.2.2.2.2.2.2.2.2.2.2.2.2.2.2.2.2.2.2.1,p.2.2.2.2.2.2.2.2.2.2.2.2.2.2.2.2.2.2.2.2.1,p.2.2.2.2.2.2.2.2.2.2.2.2.2.2.2.2.2.2.2.2.2.1,p.2.2.2.2.2.2.2.2.2.2.2.2.2.2.2.2.2.2.2.2.2.2)).bind fun r1=>
  cond (!r1.1)
  (ke (.inl (r1.2.1,r1.2.2,p.2.2.2.2.2.2.2.2.2.2.2.2.2.2.2.2.1,p.2.2.2.2.2.2.2.2.2.2.2.2.2.2.2.2.2.1)))
  (ke (.inr ((r1.2.1,r1.2.2,p.2.2.2.2.2.2.2.2.2.2.2.2.2.2.2.2.2.2.2.2.1)))))
  (cond (decide (p.2.1=(21:Int)))
  (ke (.inl (p.2.2.2.2.2.2.2.2.2.2.2.2.2.1,1,p.2.2.2.1.2.2.2.2.2.1,5)))
  ((Wk (p.2.2.2.1,p.2.2.2.2.1,p.2.2.2.2.2.1,p.2.2.2.2.2.2.1,p.2.2.2.2.2.2.2.1,p.2.2.2.2.2.2.2.2.1,p.2.2.2.2.2.2.2.2.2.1,p.2.2.2.2.2.2.2.2.2.2.1,p.2.2.2.2.2.2.2.2.2.2.2.1,p.2.2.2.2.2.2.2.2.2.2.2.2.1,p.2.2.2.2.2.2.2.2.2.2.2.2.2.1,p.2.2.2.2.2.2.2.2.2.2.2.2.2.2.1,p.2.2.2.2.2.2.2.2.2.2.2.2.2.2.2.1,p.2.2.2.2.2.2.2.2.2.2.2.2.2.2.2.2.1,p.2.2.2.2.2.2.2.2.2.2.2.2.2.2.2.2.2.1,p.2.2.2.2.2.2.2.2.2.2.2.2.2.2.2.2.2.2.1,p.2.2.2.2.2.2.2.2.2.2.2.2.2.2.2.2.2.2.2.1,p.2.2.2.2.2.2.2.2.2.2.2.2.2.2.2.2.2.2.2.2.1,p.2.2.2.2.2.2.2.2.2.2.2.2.2.2.2.2.2.2.2.2.2.1,p.2.2.2.2.2.2.2.2.2.2.2.2.2.2.2.2.2.2.2.2.2.2)).bind fun r2=>
  cond (!(decide (r2.2=(0:Int))))
  (ke (.inl (p.2.2.2.2.2.2.2.2.2.2.2.2.2.1,1,p.2.2.2.1.2.2.2.2.2.1,r2.2)))
  (ask (V.ja p.2.2.2.1.2.1 (da p.2.2.2.2.2.2.2.2.2.2.2.2.2.2.2.2.2.2.2.2.1)) (ke (.inr ((p.2.2.2.2.2.2.2.2.2.2.2.2.2.1,p.2.2.2.2.2.2.2.2.2.2.2.2.2.2.2.1,(Qa p.2.2.2.2.2.2.2.2.2.2.2.2.2.2.2.2.2.2.2.2.1 (fa p.2.2.2.1.2.1) r2.1))))))))
 o:=fun Z p e K=>Sum.elim (fun e=>so K (.ret) ⟨[],[],[.Ya Md,.cells .i,.deep .i,.cells (.slice .i)],0,4⟩ ((),(),(r9 p.t4 (e.1,p.t14.1,(),e.2.1,e.2.2.1,e.t3,p.t18.1,p.t19.1,(),(),(),())),p.t20.1,p.t21.1,p.t22,())) (fun e=>so K (.normal) ⟨[(0,.p 0 0),(3,.i)],[],[.Ya Md,.cells .i,.deep .i,.cells (.slice .i)],0,4⟩ (((),p.1,()),(),(r9 p.t4 (e.1,p.t14.1,(),e.2.1,(r4 p.t16 ((),(),(),())))),e.2.2,p.t21.1,p.t22,())) e
 Dd:=⟨[0,2,3,26,338],[],[],[]⟩
 pe:=[(.ret,⟨[],[],[],[]⟩),(.normal,⟨[0,3],[],[],[]⟩)]
def Hh:PD (Int×Int×Bool×(Wa×((List Wa)×(Int×(Int×(Int×((List Cb)×((List Zb)×((List Cb)×((List Aa)×(MF))))))))))) ((TC) ⊕ (Y46))where
 sk:=⟨[(0,.p 0 0),(2,.loc 0 0),(3,.i),(26,.i),(327,.v .bool)],[Mb],[.Ya Md,.cells .i,.deep .i,.cells (.slice .i)],0,4⟩
 p:=fun u=>(r3 u.1.2 ((q8 u.2.1.1),(u.2.2.1.1,(u.2.2.1.2.1,(u.2.2.1.2.2.1,(u.2.2.1.t3.1,(u.2.2.1.t4.1,(u.2.2.1.t5.1,(u.2.2.1.t6.1,(u.2.2.1.t7.1,(u.2.2.1.t8.1,(u.2.2.1.t9.1,(u.2.2.1.t10.1,(u.2.2.1.t12.1,(u.2.2.1.t13.1,(u.2.2.1.t14.1,(u.2.2.1.t15.1,(u.2.2.1.t16.1,(q3 u.t3)))))))))))))))))))
 st:=fun Y p ke=>cond p.2.2.1
  (ke (.inl (p.2.2.2.2.2.2.2.2.2.2.2.2.2.1,p.2.2.2.2.2.2.2.2.2.2.2.2.2.2.2.1,(Ea (p.2.2.2.2.2.2.2.2.2.2.2.2.2.2.2.2.2.2.1+(1:Int))),p.2.2.2.2.2.2.2.2.2.2.2.2.2.2.2.2.2.2.2.2.1)))
  ((Qe.m (p.1,p.2.1,(decide (p.2.1=(20:Int))),p.2.2.2)).bind fun e1=>
  Sum.elim (fun e2=>ke (.inr ((e2.1,e2.2.1,e2.2.2.1,e2.2.2.2))))
  (fun e3=>ke (.inl (e3.1,e3.2.1,p.2.2.2.2.2.2.2.2.2.2.2.2.2.2.2.2.2.2.1,e3.2.2))) e1)
 o:=fun Z p e K=>Sum.elim (fun e=>so K (.normal) ⟨[(0,.p 0 0),(3,.i)],[],[.Ya Md,.cells .i,.deep .i,.cells (.slice .i)],0,4⟩ (((),p.1,()),(),(r9 p.t4 (e.1,p.t14.1,(),e.2.1,p.t16.1,p.t17.1,e.2.2.1,p.t19.1,(),(),(),())),e.t3,p.t21.1,p.t22,())) (fun e=>so K (.ret) ⟨[],[],[.Ya Md,.cells .i,.deep .i,.cells (.slice .i)],0,4⟩ ((),(),(r9 p.t4 (e.1,p.t14.1,(),e.2.1,e.2.2.1,e.t3,p.t18.1,p.t19.1,(),(),(),())),p.t20.1,p.t21.1,p.t22,())) e
 Dd:=⟨[0,2,3,26,327],[],[],[]⟩
 pe:=[(.normal,⟨[0,3],[],[],[]⟩),(.ret,⟨[],[],[],[]⟩)]
def fe:PD (Int×Int×Bool×(Wa×((List Wa)×(Int×(Int×(Int×((List Cb)×((List Zb)×((List Cb)×((List Aa)×(MF))))))))))) ((Y46) ⊕ ((Y17) ⊕ (TC)))where
 sk:=⟨[(0,.p 0 0),(2,.loc 0 0),(3,.i),(26,.i),(279,.v .bool)],[Mb],[.Ya Md,.cells .i,.deep .i,.cells (.slice .i)],0,4⟩
 p:=fun u=>(r3 u.1.2 ((q8 u.2.1.1),(u.2.2.1.1,(u.2.2.1.2.1,(u.2.2.1.2.2.1,(u.2.2.1.t3.1,(u.2.2.1.t4.1,(u.2.2.1.t5.1,(u.2.2.1.t6.1,(u.2.2.1.t7.1,(u.2.2.1.t8.1,(u.2.2.1.t9.1,(u.2.2.1.t10.1,(u.2.2.1.t12.1,(u.2.2.1.t13.1,(u.2.2.1.t14.1,(u.2.2.1.t15.1,(u.2.2.1.t16.1,(q3 u.t3)))))))))))))))))))
 st:=fun Y p ke=>cond p.2.2.1
  ((vl.m (p.1,p.2.2.2.2)).bind fun e1=>
  cond e1
  (ke (.inl (p.2.2.2.2.2.2.2.2.2.2.2.2.2.1,3,p.2.2.2.2.2.2.2.2.2.2.2.2.2.2.2.2.1,p.2.2.2.2.2.2.2.2.2.2.2.2.2.2.2.2.2.1)))
  ((jl (p.2.2.2.2.1,p.2.2.2.2.2.1,p.2.2.2.2.2.2.1,p.2.2.2.2.2.2.2.1,p.2.2.2.2.2.2.2.2.1,p.2.2.2.2.2.2.2.2.2.1,p.2.2.2.2.2.2.2.2.2.2.1,p.2.2.2.2.2.2.2.2.2.2.2.1,p.2.2.2.2.2.2.2.2.2.2.2.2.1,p.2.2.2.2.2.2.2.2.2.2.2.2.2.1,p.2.2.2.2.2.2.2.2.2.2.2.2.2.2.1,p.2.2.2.2.2.2.2.2.2.2.2.2.2.2.2.1,p.2.2.2.2.2.2.2.2.2.2.2.2.2.2.2.2.1,p.2.2.2.2.2.2.2.2.2.2.2.2.2.2.2.2.2.1,p.2.2.2.2.2.2.2.2.2.2.2.2.2.2.2.2.2.2.1,p.2.2.2.2.2.2.2.2.2.2.2.2.2.2.2.2.2.2.2.1,p.2.2.2.2.2.2.2.2.2.2.2.2.2.2.2.2.2.2.2.2.1,p.2.2.2.2.2.2.2.2.2.2.2.2.2.2.2.2.2.2.2.2.2.1,p.2.2.2.2.2.2.2.2.2.2.2.2.2.2.2.2.2.2.2.2.2.2)).bind fun r2=>
  cond (!r2.1)
  (ke (.inl (r2.2.1,r2.2.2,p.2.2.2.2.2.2.2.2.2.2.2.2.2.2.2.2.1,p.2.2.2.2.2.2.2.2.2.2.2.2.2.2.2.2.2.1)))
  ((Dl.m (p.1,(decide ((nt (da p.2.2.2.2.2.2.2.2.2.2.2.2.2.2.2.2.2.2.2.2.2.2))<(64:Int))),p.2.2.2.2.1,p.2.2.2.2.2.1,p.2.2.2.2.2.2.1,p.2.2.2.2.2.2.2.1,p.2.2.2.2.2.2.2.2.1,p.2.2.2.2.2.2.2.2.2.1,p.2.2.2.2.2.2.2.2.2.2.1,p.2.2.2.2.2.2.2.2.2.2.2.1,p.2.2.2.2.2.2.2.2.2.2.2.2.1,r2.2.1,p.2.2.2.2.2.2.2.2.2.2.2.2.2.2.1,r2.2.2,p.2.2.2.2.2.2.2.2.2.2.2.2.2.2.2.2)).bind fun e3=>
  Sum.elim (fun e4=>ke (.inr (.inl (r2.2.1,r2.2.2,e4))))
  (fun e5=>ke (.inr (.inr ((r2.2.1,r2.2.2,p.2.2.2.2.2.2.2.2.2.2.2.2.2.2.2.2.2.2.1,p.2.2.2.2.2.2.2.2.2.2.2.2.2.2.2.2.2.2.2.2.1))))) e3)))
  ((Hh.m (p.1,p.2.1,(decide (p.2.1=(18:Int))),p.2.2.2)).bind fun e6=>
  Sum.elim (fun e7=>ke (.inr (.inr ((e7.1,e7.2.1,e7.2.2.1,e7.2.2.2)))))
  (fun e8=>ke (.inl (e8.1,e8.2.1,e8.2.2.1,e8.2.2.2))) e6)
 o:=fun Z p e K=>Sum.elim (fun e=>so K (.ret) ⟨[],[],[.Ya Md,.cells .i,.deep .i,.cells (.slice .i)],0,4⟩ ((),(),(r9 p.t4 (e.1,p.t14.1,(),e.2.1,e.2.2.1,e.t3,p.t18.1,p.t19.1,(),(),(),())),p.t20.1,p.t21.1,p.t22,())) (fun e=>Sum.elim (fun e=>so K (.normal) ⟨[(0,.p 0 0),(3,.i)],[],[.Ya aJ,.cells .i,.deep .i,.dead,.cells (.slice .i)],0,4⟩ (((),p.1,()),(),(r9 p.t4 (e.1,p.t14.1,(),e.2.1,(r4 p.t16 ((),(),(),())))),p.t20.1,p.t21.1,(),e.2.2,())) (fun e=>so K (.normal) ⟨[(0,.p 0 0),(3,.i)],[],[.Ya Md,.cells .i,.deep .i,.cells (.slice .i)],0,4⟩ (((),p.1,()),(),(r9 p.t4 (e.1,p.t14.1,(),e.2.1,p.t16.1,p.t17.1,e.2.2.1,p.t19.1,(),(),(),())),e.t3,p.t21.1,p.t22,())) e) e
 Dd:=⟨[0,2,3,26,279],[],[],[]⟩
 pe:=[(.ret,⟨[],[],[],[]⟩),(.normal,⟨[0,3],[],[],[]⟩)]
def kf:PD (Int×Int×Bool×(Wa×((List Wa)×(Int×(Int×(Int×((List Cb)×((List Zb)×((List Cb)×((List Aa)×(MF))))))))))) ((Y47) ⊕ (Y46))where
 sk:=⟨[(0,.p 0 0),(2,.loc 0 0),(3,.i),(26,.i),(267,.v .bool)],[Mb],[.Ya Md,.cells .i,.deep .i,.cells (.slice .i)],0,4⟩
 p:=fun u=>(r3 u.1.2 ((q8 u.2.1.1),(u.2.2.1.1,(u.2.2.1.2.1,(u.2.2.1.2.2.1,(u.2.2.1.t3.1,(u.2.2.1.t4.1,(u.2.2.1.t5.1,(u.2.2.1.t6.1,(u.2.2.1.t7.1,(u.2.2.1.t8.1,(u.2.2.1.t9.1,(u.2.2.1.t10.1,(u.2.2.1.t12.1,(u.2.2.1.t13.1,(u.2.2.1.t14.1,(u.2.2.1.t15.1,(u.2.2.1.t16.1,(q3 u.t3)))))))))))))))))))
 st:=fun Y p ke=>cond p.2.2.1
  ((Cn (p.2.2.2.1,p.2.2.2.2.1,p.2.2.2.2.2.1,p.2.2.2.2.2.2.1,p.2.2.2.2.2.2.2.1,p.2.2.2.2.2.2.2.2.1,p.2.2.2.2.2.2.2.2.2.1,p.2.2.2.2.2.2.2.2.2.2.1,p.2.2.2.2.2.2.2.2.2.2.2.1,p.2.2.2.2.2.2.2.2.2.2.2.2.1,p.2.2.2.2.2.2.2.2.2.2.2.2.2.1,p.2.2.2.2.2.2.2.2.2.2.2.2.2.2.1,p.2.2.2.2.2.2.2.2.2.2.2.2.2.2.2.1,p.2.2.2.2.2.2.2.2.2.2.2.2.2.2.2.2.1,p.2.2.2.2.2.2.2.2.2.2.2.2.2.2.2.2.2.1,p.2.2.2.2.2.2.2.2.2.2.2.2.2.2.2.2.2.2.1,p.2.2.2.2.2.2.2.2.2.2.2.2.2.2.2.2.2.2.2.1,p.2.2.2.2.2.2.2.2.2.2.2.2.2.2.2.2.2.2.2.2.1,p.2.2.2.2.2.2.2.2.2.2.2.2.2.2.2.2.2.2.2.2.2.1,p.2.2.2.2.2.2.2.2.2.2.2.2.2.2.2.2.2.2.2.2.2.2)).bind fun r1=>
  (El.m (p.1,(!r1),p.2.2.2)).bind fun e2=>
  ke (.inl (e2,p.2.2.2.2.2.2.2.2.2.2.2.2.2.1,p.2.2.2.2.2.2.2.2.2.2.2.2.2.2.2.1,p.2.2.2.2.2.2.2.2.2.2.2.2.2.2.2.2.2.2.1,p.2.2.2.2.2.2.2.2.2.2.2.2.2.2.2.2.2.2.2.2.1,p.2.2.2.2.2.2.2.2.2.2.2.2.2.2.2.2.2.2.2.2.2.2)))
  (cond (decide (p.2.1=(16:Int)))
  (ke (.inl (p.1,p.2.2.2.2.2.2.2.2.2.2.2.2.2.1,p.2.2.2.2.2.2.2.2.2.2.2.2.2.2.2.1,p.2.2.2.2.2.2.2.2.2.2.2.2.2.2.2.2.2.2.1,p.2.2.2.2.2.2.2.2.2.2.2.2.2.2.2.2.2.2.2.2.1,p.2.2.2.2.2.2.2.2.2.2.2.2.2.2.2.2.2.2.2.2.2.2)))
  (cond (decide (p.2.1=(19:Int)))
  (ke (.inl (p.1,p.2.2.2.2.2.2.2.2.2.2.2.2.2.1,p.2.2.2.2.2.2.2.2.2.2.2.2.2.2.2.1,p.2.2.2.2.2.2.2.2.2.2.2.2.2.2.2.2.2.2.1,p.2.2.2.2.2.2.2.2.2.2.2.2.2.2.2.2.2.2.2.2.1,p.2.2.2.2.2.2.2.2.2.2.2.2.2.2.2.2.2.2.2.2.2.2)))
  ((fe.m (p.1,p.2.1,(decide (p.2.1=(17:Int))),p.2.2.2)).bind fun e3=>
  Sum.elim (fun e4=>ke (.inr ((e4.1,e4.2.1,e4.2.2.1,e4.2.2.2))))
  (fun se3=>Sum.elim (fun e5=>ke (.inl (p.1,e5.1,e5.2.1,p.2.2.2.2.2.2.2.2.2.2.2.2.2.2.2.2.2.2.1,p.2.2.2.2.2.2.2.2.2.2.2.2.2.2.2.2.2.2.2.2.1,e5.2.2)))
  (fun e6=>ke (.inl (p.1,e6.1,e6.2.1,e6.2.2.1,e6.2.2.2,p.2.2.2.2.2.2.2.2.2.2.2.2.2.2.2.2.2.2.2.2.2.2))) se3) e3)))
 o:=fun Z p e K=>Sum.elim (fun e=>so K (.normal) ⟨[(0,.p 0 0),(3,.i)],[],[.Ya aJ,.cells .i,.deep .i,.dead,.cells (.slice .i)],0,4⟩ (((),e.1,()),(),(r9 p.t4 (e.2.1,p.t14.1,(),e.2.2.1,p.t16.1,p.t17.1,e.t3.1,p.t19.1,(),(),(),())),e.t4.1,p.t21.1,(),e.t5,())) (fun e=>so K (.ret) ⟨[],[],[.Ya Md,.cells .i,.deep .i,.cells (.slice .i)],0,4⟩ ((),(),(r9 p.t4 (e.1,p.t14.1,(),e.2.1,e.2.2.1,e.t3,p.t18.1,p.t19.1,(),(),(),())),p.t20.1,p.t21.1,p.t22,())) e
 Dd:=⟨[0,2,3,26,267],[],[],[]⟩
 pe:=[(.normal,⟨[0,3],[],[],[(0,[.any,.any,.any,.any,.any,.any,.any,.any,.any,.any,.any,.any,.any,.any,.any,.any,.any,.any,.any,(.mv (.slice (.int .i64)))])]⟩),(.ret,⟨[],[],[],[]⟩)]
def kg:PD (Int×Int×Bool×(Wa×((List Wa)×(Int×(Int×(Int×((List Cb)×((List Zb)×((List Cb)×((List Aa)×(MF))))))))))) ((Y46) ⊕ (Y48))where
 sk:=⟨[(0,.p 0 0),(2,.loc 0 0),(3,.i),(26,.i),(203,.v .bool)],[Mb],[.Ya Md,.cells .i,.deep .i,.cells (.slice .i)],0,4⟩
 p:=fun u=>(r3 u.1.2 ((q8 u.2.1.1),(u.2.2.1.1,(u.2.2.1.2.1,(u.2.2.1.2.2.1,(u.2.2.1.t3.1,(u.2.2.1.t4.1,(u.2.2.1.t5.1,(u.2.2.1.t6.1,(u.2.2.1.t7.1,(u.2.2.1.t8.1,(u.2.2.1.t9.1,(u.2.2.1.t10.1,(u.2.2.1.t12.1,(u.2.2.1.t13.1,(u.2.2.1.t14.1,(u.2.2.1.t15.1,(u.2.2.1.t16.1,(q3 u.t3)))))))))))))))))))
 st:=fun Y p ke=>cond p.2.2.1
  (ask (V.ja p.2.2.2.1.2.2.2.1 (da p.2.2.2.2.2.2.2.2.2.2.2.2.2.2.2.2.2.2.2.2.1)) (ask (V.ja p.2.2.2.1.2.2.1 (da p.2.2.2.2.2.2.2.2.2.2.2.2.2.2.2.2.2.2.2.2.2.1)) ((xl.m (p.1,(gx p.2.2.2.2.2.2.2.2.2.2.2.2.2.2.2.2.2.2.2.2.1 (fa p.2.2.2.1.2.2.2.1) (0:Int)),(fa p.2.2.2.1.2.2.1),p.2.2.2)).bind fun e1=>
  cond e1
  (ke (.inl (p.2.2.2.2.2.2.2.2.2.2.2.2.2.1,1,p.2.2.2.1.2.2.2.2.2.1,4)))
  (ask (V.ja p.2.2.2.1.2.2.1 (da p.2.2.2.2.2.2.2.2.2.2.1)) (ask (V.ja p.2.2.2.1.2.1 (da p.2.2.2.2.2.2.2.2.2.2.2.2.2.2.2.2.2.2.2.2.1)) ((uu ((gx p.2.2.2.2.2.2.2.2.2.2.1 (fa p.2.2.2.1.2.2.1) fb).2.1,(gx p.2.2.2.2.2.2.2.2.2.2.2.2.2.2.2.2.2.2.2.2.1 (fa p.2.2.2.1.2.1) (0:Int)))).bind fun r2=>
  cond (!r2)
  (ke (.inl (p.2.2.2.2.2.2.2.2.2.2.2.2.2.1,1,p.2.2.2.1.2.2.2.2.2.1,1)))
  (ask (V.ja p.2.2.2.1.2.1 (da p.2.2.2.2.2.2.2.2.2.2.2.2.2.2.2.2.2.2.2.2.1)) (ask (V.ja (gx p.2.2.2.2.2.2.2.2.2.2.2.2.2.2.2.2.2.2.2.2.1 (fa p.2.2.2.1.2.2.2.1) (0:Int)) (da (gx p.2.2.2.2.2.2.2.2.2.2.2.2.2.2.2.2.2.2.2.2.2.1 (fa p.2.2.2.1.2.2.1) []))) (ke (.inr ((p.1,p.2.2.2.2.2.2.2.2.2.2.2.2.2.1,p.2.2.2.2.2.2.2.2.2.2.2.2.2.2.2.1,p.2.2.2.2.2.2.2.2.2.2.2.2.2.2.2.2.2.2.1,p.2.2.2.2.2.2.2.2.2.2.2.2.2.2.2.2.2.2.2.2.1,(Qa p.2.2.2.2.2.2.2.2.2.2.2.2.2.2.2.2.2.2.2.2.2.1 (fa p.2.2.2.1.2.2.1) (Qa (gx p.2.2.2.2.2.2.2.2.2.2.2.2.2.2.2.2.2.2.2.2.2.1 (fa p.2.2.2.1.2.2.1) []) (fa (gx p.2.2.2.2.2.2.2.2.2.2.2.2.2.2.2.2.2.2.2.2.1 (fa p.2.2.2.1.2.2.2.1) (0:Int))) (gx p.2.2.2.2.2.2.2.2.2.2.2.2.2.2.2.2.2.2.2.2.1 (fa p.2.2.2.1.2.1) (0:Int)))),p.2.2.2.2.2.2.2.2.2.2.2.2.2.2.2.2.2.2.2.2.2.2))))))))))))
  ((kf.m (p.1,p.2.1,(decide (p.2.1=(15:Int))),p.2.2.2)).bind fun e3=>
  Sum.elim (fun e4=>ke (.inr ((e4.1,e4.2.1,e4.2.2.1,e4.2.2.2.1,e4.2.2.2.2.1,p.2.2.2.2.2.2.2.2.2.2.2.2.2.2.2.2.2.2.2.2.2.1,e4.2.2.2.2.2))))
  (fun e5=>ke (.inl (e5.1,e5.2.1,e5.2.2.1,e5.2.2.2))) e3)
 o:=fun Z p e K=>Sum.elim (fun e=>so K (.ret) ⟨[],[],[.Ya Md,.cells .i,.deep .i,.cells (.slice .i)],0,4⟩ ((),(),(r9 p.t4 (e.1,p.t14.1,(),e.2.1,e.2.2.1,e.t3,p.t18.1,p.t19.1,(),(),(),())),p.t20.1,p.t21.1,p.t22,())) (fun e=>so K (.normal) ⟨[(0,.p 0 0),(3,.i)],[],[.Ya aJ,.cells .i,.deep .i,.dead,.cells (.slice .i)],0,4⟩ (((),e.1,()),(),(r9 p.t4 (e.2.1,p.t14.1,(),e.2.2.1,p.t16.1,p.t17.1,e.t3.1,p.t19.1,(),(),(),())),e.t4.1,e.t5.1,(),e.t6,())) e
 Dd:=⟨[0,2,3,26,203],[],[],[]⟩
 pe:=[(.ret,⟨[],[],[],[]⟩),(.normal,⟨[0,3],[],[],[(0,[.any,.any,.any,.any,.any,.any,.any,.any,.any,.any,.any,.any,.any,.any,.any,.any,.any,.any,.any,(.mv (.slice (.int .i64)))])]⟩)]
def lg:PD (Int×Int×Bool×(Wa×((List Wa)×(Int×(Int×(Int×((List Cb)×((List Zb)×((List Cb)×((List Aa)×(MF))))))))))) ((Y46) ⊕ (Y48))where
 sk:=⟨[(0,.p 0 0),(2,.loc 0 0),(3,.i),(26,.i),(163,.v .bool)],[Mb],[.Ya Md,.cells .i,.deep .i,.cells (.slice .i)],0,4⟩
 p:=fun u=>(r3 u.1.2 ((q8 u.2.1.1),(u.2.2.1.1,(u.2.2.1.2.1,(u.2.2.1.2.2.1,(u.2.2.1.t3.1,(u.2.2.1.t4.1,(u.2.2.1.t5.1,(u.2.2.1.t6.1,(u.2.2.1.t7.1,(u.2.2.1.t8.1,(u.2.2.1.t9.1,(u.2.2.1.t10.1,(u.2.2.1.t12.1,(u.2.2.1.t13.1,(u.2.2.1.t14.1,(u.2.2.1.t15.1,(u.2.2.1.t16.1,(q3 u.t3)))))))))))))))))))
 st:=fun Y p ke=>cond p.2.2.1
  (ask (V.ja p.2.2.2.1.2.1 (da p.2.2.2.2.2.2.2.2.2.1)) (ask (V.ja p.2.2.2.1.2.2.1 (da p.2.2.2.2.2.2.2.2.2.2.2.2.2.2.2.2.2.2.2.2.1)) ((uu ((gx p.2.2.2.2.2.2.2.2.2.1 (fa p.2.2.2.1.2.1) Bc).2.1,(gx p.2.2.2.2.2.2.2.2.2.2.2.2.2.2.2.2.2.2.2.2.1 (fa p.2.2.2.1.2.2.1) (0:Int)))).bind fun r1=>
  cond (!r1)
  (ke (.inl (p.2.2.2.2.2.2.2.2.2.2.2.2.2.1,1,p.2.2.2.1.2.2.2.2.2.1,1)))
  (ask (V.ja p.2.2.2.1.2.2.1 (da p.2.2.2.2.2.2.2.2.2.2.2.2.2.2.2.2.2.2.2.2.1)) (ask (V.ja p.2.2.2.1.2.1 (da p.2.2.2.2.2.2.2.2.2.2.2.2.2.2.2.2.2.2.2.2.1)) (ke (.inr ((p.1,p.2.2.2.2.2.2.2.2.2.2.2.2.2.1,p.2.2.2.2.2.2.2.2.2.2.2.2.2.2.2.1,p.2.2.2.2.2.2.2.2.2.2.2.2.2.2.2.2.2.2.1,(Qa p.2.2.2.2.2.2.2.2.2.2.2.2.2.2.2.2.2.2.2.2.1 (fa p.2.2.2.1.2.1) (gx p.2.2.2.2.2.2.2.2.2.2.2.2.2.2.2.2.2.2.2.2.1 (fa p.2.2.2.1.2.2.1) (0:Int))),p.2.2.2.2.2.2.2.2.2.2.2.2.2.2.2.2.2.2.2.2.2.1,p.2.2.2.2.2.2.2.2.2.2.2.2.2.2.2.2.2.2.2.2.2.2)))))))))
  ((kg.m (p.1,p.2.1,(decide (p.2.1=(14:Int))),p.2.2.2)).bind fun e2=>
  Sum.elim (fun e3=>ke (.inl (e3.1,e3.2.1,e3.2.2.1,e3.2.2.2)))
  (fun e4=>ke (.inr ((e4.1,e4.2.1,e4.2.2.1,e4.2.2.2.1,e4.2.2.2.2.1,e4.2.2.2.2.2.1,e4.2.2.2.2.2.2)))) e2)
 o:=fun Z p e K=>Sum.elim (fun e=>so K (.ret) ⟨[],[],[.Ya Md,.cells .i,.deep .i,.cells (.slice .i)],0,4⟩ ((),(),(r9 p.t4 (e.1,p.t14.1,(),e.2.1,e.2.2.1,e.t3,p.t18.1,p.t19.1,(),(),(),())),p.t20.1,p.t21.1,p.t22,())) (fun e=>so K (.normal) ⟨[(0,.p 0 0),(3,.i)],[],[.Ya aJ,.cells .i,.deep .i,.dead,.cells (.slice .i)],0,4⟩ (((),e.1,()),(),(r9 p.t4 (e.2.1,p.t14.1,(),e.2.2.1,p.t16.1,p.t17.1,e.t3.1,p.t19.1,(),(),(),())),e.t4.1,e.t5.1,(),e.t6,())) e
 Dd:=⟨[0,2,3,26,163],[],[],[]⟩
 pe:=[(.ret,⟨[],[],[],[]⟩),(.normal,⟨[0,3],[],[],[(0,[.any,.any,.any,.any,.any,.any,.any,.any,.any,.any,.any,.any,.any,.any,.any,.any,.any,.any,.any,(.mv (.slice (.int .i64)))])]⟩)]
def mg:PD (Int×Int×Bool×(Wa×((List Wa)×(Int×(Int×(Int×((List Cb)×((List Zb)×((List Cb)×((List Aa)×(MF))))))))))) ((Y44) ⊕ (Y45))where
 sk:=⟨[(0,.p 0 0),(2,.loc 0 0),(3,.i),(26,.i),(88,.v .bool)],[Mb],[.Ya Md,.cells .i,.deep .i,.cells (.slice .i)],0,4⟩
 p:=fun u=>(r3 u.1.2 ((q8 u.2.1.1),(u.2.2.1.1,(u.2.2.1.2.1,(u.2.2.1.2.2.1,(u.2.2.1.t3.1,(u.2.2.1.t4.1,(u.2.2.1.t5.1,(u.2.2.1.t6.1,(u.2.2.1.t7.1,(u.2.2.1.t8.1,(u.2.2.1.t9.1,(u.2.2.1.t10.1,(u.2.2.1.t12.1,(u.2.2.1.t13.1,(u.2.2.1.t14.1,(u.2.2.1.t15.1,(u.2.2.1.t16.1,(q3 u.t3)))))))))))))))))))
 st:=fun Y p ke=>cond p.2.2.1
  (cond (decide ((nt (da p.2.2.2.2.2.2.2.2.2.2.2.2.1))<=p.2.2.2.2.2.2.2.2.2.2.2.2.2.2.2.2.2.2.2.1))
  (ke (.inl (p.2.2.2.2.2.2.2.2.2.2.2.2.2.1,2,p.2.2.2.2.2.2.2.2.2.2.2.2.2.2.2.2.1,p.2.2.2.2.2.2.2.2.2.2.2.2.2.2.2.2.2.1,p.2.2.2.2.2.2.2.2.2.2.2.2.2.2.2.2.2.2.2.1)))
  (ask (V.ja p.2.2.2.2.2.2.2.2.2.2.2.2.2.2.2.2.2.2.2.1 (da p.2.2.2.2.2.2.2.2.2.2.2.2.1)) ((Al.m (p.1,(gx p.2.2.2.2.2.2.2.2.2.2.2.2.1 (fa p.2.2.2.2.2.2.2.2.2.2.2.2.2.2.2.2.2.2.2.1) (0:Int)),p.2.2.2.1,p.2.2.2.2.1,p.2.2.2.2.2.1,p.2.2.2.2.2.2.1,p.2.2.2.2.2.2.2.1,p.2.2.2.2.2.2.2.2.1,p.2.2.2.2.2.2.2.2.2.1,p.2.2.2.2.2.2.2.2.2.2.1,p.2.2.2.2.2.2.2.2.2.2.2.1,p.2.2.2.2.2.2.2.2.2.2.2.2.1,p.2.2.2.2.2.2.2.2.2.2.2.2.2.1,p.2.2.2.2.2.2.2.2.2.2.2.2.2.2.1,p.2.2.2.2.2.2.2.2.2.2.2.2.2.2.2.1,p.2.2.2.2.2.2.2.2.2.2.2.2.2.2.2.2.1,p.2.2.2.2.2.2.2.2.2.2.2.2.2.2.2.2.2.1,p.2.2.2.2.2.2.2.2.2.2.2.2.2.2.2.2.2.2.1,(Ea (p.2.2.2.2.2.2.2.2.2.2.2.2.2.2.2.2.2.2.2.1+(1:Int))),p.2.2.2.2.2.2.2.2.2.2.2.2.2.2.2.2.2.2.2.2)).bind fun e1=>
  cond e1
  (ke (.inl (p.2.2.2.2.2.2.2.2.2.2.2.2.2.1,5,p.2.2.2.2.2.2.2.2.2.2.2.2.2.2.2.2.1,p.2.2.2.2.2.2.2.2.2.2.2.2.2.2.2.2.2.1,(Ea (p.2.2.2.2.2.2.2.2.2.2.2.2.2.2.2.2.2.2.2.1+(1:Int))))))
  (ask (V.ja p.2.2.2.1.2.1 (da p.2.2.2.2.2.2.2.2.2.2.2.2.2.2.2.2.2.2.2.2.1)) (ke (.inr ((p.1,p.2.2.2.2.2.2.2.2.2.2.2.2.2.1,p.2.2.2.2.2.2.2.2.2.2.2.2.2.2.2.1,p.2.2.2.2.2.2.2.2.2.2.2.2.2.2.2.2.2.2.1,(Ea (p.2.2.2.2.2.2.2.2.2.2.2.2.2.2.2.2.2.2.2.1+(1:Int))),(Qa p.2.2.2.2.2.2.2.2.2.2.2.2.2.2.2.2.2.2.2.2.1 (fa p.2.2.2.1.2.1) (gx p.2.2.2.2.2.2.2.2.2.2.2.2.1 (fa p.2.2.2.2.2.2.2.2.2.2.2.2.2.2.2.2.2.2.2.1) (0:Int))),p.2.2.2.2.2.2.2.2.2.2.2.2.2.2.2.2.2.2.2.2.2.1,p.2.2.2.2.2.2.2.2.2.2.2.2.2.2.2.2.2.2.2.2.2.2))))))))
  ((lg.m (p.1,p.2.1,(decide (p.2.1=(13:Int))),p.2.2.2)).bind fun e2=>
  Sum.elim (fun e3=>ke (.inl (e3.1,e3.2.1,e3.2.2.1,e3.2.2.2,p.2.2.2.2.2.2.2.2.2.2.2.2.2.2.2.2.2.2.2.1)))
  (fun e4=>ke (.inr ((e4.1,e4.2.1,e4.2.2.1,e4.2.2.2.1,p.2.2.2.2.2.2.2.2.2.2.2.2.2.2.2.2.2.2.2.1,e4.2.2.2.2.1,e4.2.2.2.2.2.1,e4.2.2.2.2.2.2)))) e2)
 o:=fun Z p e K=>Sum.elim (fun e=>so K (.ret) ⟨[],[],[.Ya Md,.cells .i,.deep .i,.cells (.slice .i)],0,4⟩ ((),(),(r9 p.t4 (e.1,p.t14.1,(),(r3 e.2 (p.t18.1,e.t4,(),(),(),())))),p.t20.1,p.t21.1,p.t22,())) (fun e=>so K (.normal) ⟨[(0,.p 0 0),(3,.i)],[],[.Ya aJ,.cells .i,.deep .i,.dead,.cells (.slice .i)],0,4⟩ (((),e.1,()),(),(r9 p.t4 (e.2.1,p.t14.1,(),e.2.2.1,p.t16.1,p.t17.1,e.t3.1,e.t4.1,(),(),(),())),e.t5.1,e.t6.1,(),e.t7,())) e
 Dd:=⟨[0,2,3,26,88],[],[],[]⟩
 pe:=[(.ret,⟨[],[],[],[]⟩),(.normal,⟨[0,3],[],[],[(0,[.any,.any,.any,.any,.any,.any,.any,.any,.any,.any,.any,.any,.any,.any,.any,.any,.any,.any,.any,(.mv (.slice (.int .i64)))])]⟩)]
def Uh:PD (Int×Int×Bool×Wa×((List Wa)×(Int×(Int×(Int×((List Cb)×((List Zb)×((List Cb)×((List Aa)×(MF)))))))))) ((Y44) ⊕ (Y45))where
 sk:=⟨[(0,.p 0 0),(2,.loc 0 0),(3,.i),(26,.i),(47,.v .bool)],[Mb],[.Ya Md,.cells .i,.deep .i,.cells (.slice .i)],0,4⟩
 p:=fun u=>(r3 u.1.2 ((q8 u.2.1.1),u.2.2.1.1,(u.2.2.1.2.1,(u.2.2.1.2.2.1,(u.2.2.1.t3.1,(u.2.2.1.t4.1,(u.2.2.1.t5.1,(u.2.2.1.t6.1,(u.2.2.1.t7.1,(u.2.2.1.t8.1,(u.2.2.1.t9.1,(u.2.2.1.t10.1,(u.2.2.1.t12.1,(u.2.2.1.t13.1,(u.2.2.1.t14.1,(u.2.2.1.t15.1,(u.2.2.1.t16.1,(q3 u.t3))))))))))))))))))
 st:=fun Y p ke=>cond p.2.2.1
  (ask (V.ja p.2.2.2.1.2.2.2.1 (da p.2.2.2.2.2.2.2.2.2.2.2.2.2.2.2.2.2.2.2.2.1)) (ask (V.ja p.2.2.2.1.2.2.1 (da p.2.2.2.2.2.2.2.2.2.2.2.2.2.2.2.2.2.2.2.2.2.1)) ((Bl.m (p.1,(gx p.2.2.2.2.2.2.2.2.2.2.2.2.2.2.2.2.2.2.2.2.1 (fa p.2.2.2.1.2.2.2.1) (0:Int)),(fa p.2.2.2.1.2.2.1),p.2.2.2)).bind fun e1=>
  cond e1
  (ke (.inl (p.2.2.2.2.2.2.2.2.2.2.2.2.2.1,1,p.2.2.2.1.2.2.2.2.2.1,4,p.2.2.2.2.2.2.2.2.2.2.2.2.2.2.2.2.2.2.2.1)))
  (ask (V.ja (gx p.2.2.2.2.2.2.2.2.2.2.2.2.2.2.2.2.2.2.2.2.1 (fa p.2.2.2.1.2.2.2.1) (0:Int)) (da (gx p.2.2.2.2.2.2.2.2.2.2.2.2.2.2.2.2.2.2.2.2.2.1 (fa p.2.2.2.1.2.2.1) []))) (ask (V.ja p.2.2.2.1.2.1 (da p.2.2.2.2.2.2.2.2.2.2.2.2.2.2.2.2.2.2.2.2.1)) (ke (.inr ((p.1,p.2.2.2.2.2.2.2.2.2.2.2.2.2.1,p.2.2.2.2.2.2.2.2.2.2.2.2.2.2.2.1,p.2.2.2.2.2.2.2.2.2.2.2.2.2.2.2.2.2.2.1,p.2.2.2.2.2.2.2.2.2.2.2.2.2.2.2.2.2.2.2.1,(Qa p.2.2.2.2.2.2.2.2.2.2.2.2.2.2.2.2.2.2.2.2.1 (fa p.2.2.2.1.2.1) (gx (gx p.2.2.2.2.2.2.2.2.2.2.2.2.2.2.2.2.2.2.2.2.2.1 (fa p.2.2.2.1.2.2.1) []) (fa (gx p.2.2.2.2.2.2.2.2.2.2.2.2.2.2.2.2.2.2.2.2.1 (fa p.2.2.2.1.2.2.2.1) (0:Int))) (0:Int))),p.2.2.2.2.2.2.2.2.2.2.2.2.2.2.2.2.2.2.2.2.2.1,p.2.2.2.2.2.2.2.2.2.2.2.2.2.2.2.2.2.2.2.2.2.2)))))))))
  ((mg.m (p.1,p.2.1,(decide (p.2.1=(12:Int))),p.2.2.2)).bind fun e2=>
  Sum.elim (fun e3=>ke (.inl (e3.1,e3.2.1,e3.2.2.1,e3.2.2.2.1,e3.2.2.2.2)))
  (fun e4=>ke (.inr ((e4.1,e4.2.1,e4.2.2.1,e4.2.2.2.1,e4.2.2.2.2.1,e4.2.2.2.2.2.1,e4.2.2.2.2.2.2.1,e4.2.2.2.2.2.2.2)))) e2)
 o:=fun Z p e K=>Sum.elim (fun e=>so K (.ret) ⟨[],[],[.Ya Md,.cells .i,.deep .i,.cells (.slice .i)],0,4⟩ ((),(),(r9 p.t4 (e.1,p.t14.1,(),(r3 e.2 (p.t18.1,e.t4,(),(),(),())))),p.t20.1,p.t21.1,p.t22,())) (fun e=>so K (.normal) ⟨[(0,.p 0 0),(3,.i)],[],[.Ya aJ,.cells .i,.deep .i,.dead,.cells (.slice .i)],0,4⟩ (((),e.1,()),(),(r9 p.t4 (e.2.1,p.t14.1,(),e.2.2.1,p.t16.1,p.t17.1,e.t3.1,e.t4.1,(),(),(),())),e.t5.1,e.t6.1,(),e.t7,())) e
 Dd:=⟨[0,2,3,26,47],[],[],[]⟩
 pe:=[(.ret,⟨[],[],[],[]⟩),(.normal,⟨[0,3],[],[],[(0,[.any,.any,.any,.any,.any,.any,.any,.any,.any,.any,.any,.any,.any,.any,.any,.any,.any,.any,.any,(.mv (.slice (.int .i64)))])]⟩)]
def xw{X:Type}(a:U2)(K:(Y44) ⊕ (Y45)->Option X):Option X:=
 ask (V.ja a.2.2.2.2.2.2.2.2.2.2.1 (da a.1)) ((Uh.m ((gx a.1 (fa a.2.2.2.2.2.2.2.2.2.2.1) Ta).2.2.2.2.2.2.1,(gx a.1 (fa a.2.2.2.2.2.2.2.2.2.2.1) Ta).1,(decide ((gx a.1 (fa a.2.2.2.2.2.2.2.2.2.2.1) Ta).1=(11:Int))),(gx a.1 (fa a.2.2.2.2.2.2.2.2.2.2.1) Ta),a)).bind fun e1=>
 Sum.elim (fun e2=>K (.inl (e2.1,e2.2.1,e2.2.2.1,e2.2.2.2.1,e2.2.2.2.2)))
 (fun e3=>K (.inr ((e3.2.1,e3.1,e3.2.2.1,e3.2.2.2.1,e3.2.2.2.2.1,e3.2.2.2.2.2.1,e3.2.2.2.2.2.2.1,e3.2.2.2.2.2.2.2)))) e1)
def wg:=fun a=>xw a some
def NT:Spec:=pK.sp wg
noncomputable def Eb:Env:=eE [1000008,1000014,1000022,1000026,1000034,1000035,1000039,1000043,1000045,1000047,2000010,2000018,2000028,2000039] (yb [(126,HT),(127,K6),(128,ET),(129,BT),(130,yT),(131,wT)]) (qL 2000010 Bl.q (qL 2000018 Al.q (qL 2000028 xl.q (qL 1000035 El.q (qL 2000039 vl.q (qL 1000043 Dl.q (qL 1000047 Qe.q (qL 1000045 Hh.q (qL 1000039 fe.q (qL 1000034 kf.q (qL 1000026 kg.q (qL 1000022 lg.q (qL 1000014 mg.q (qL 1000008 Uh.q qN))))))))))))))
theorem zD:LS C Eb true [2] 352 (pc [1,1,0,1,0,1,0,1,1,0,0] Tryz.f101):=fun hc=>
 pN (n':=fun p=>(((),(r3 p ())),((r7 p.t3.1 (p.t3.1.t7,())),()),(Eg p.t4 ((),(r5 p.t15 ((),(),(),())))),p.t20.1,p.t21.1,p.t22,())) (Jd:=⟨Vf Eb.join 2000010,Eb.call,Eb.loop⟩) hc rfl Bl (by intros;simp only[Bl,PD.m,nn])
theorem yD:LS C Eb true [2] 352 (pc [1,1,0,1,0,1,1,1,0,1,1,1,0,0] Tryz.f101):=fun hc=>
 pN (n':=fun p=>(((),p.1,p.2.1,()),((r7 p.2.2.1 (p.2.2.1.t7,())),()),(Eg p.t3 ((),(r5 p.t14 ((),(),(),())))),p.t19.1,p.t20.1,p.t21,())) (Jd:=⟨Vf Eb.join 2000018,Eb.call,Eb.loop⟩) hc rfl Al (by intros;simp only[Al,PD.m,nn])
theorem xD:LS C Eb true [2] 352 (pc [1,1,0,1,0,1,1,1,1,1,1,1,0,1,1,0,0] Tryz.f101):=fun hc=>
 pN (n':=fun p=>(((),(r3 p ())),((r7 p.t3.1 (p.t3.1.t7,())),()),(Eg p.t4 ((),(r5 p.t15 ((),(),(),())))),p.t20.1,p.t21.1,p.t22,())) (Jd:=⟨Vf Eb.join 2000028,Eb.call,Eb.loop⟩) hc rfl xl (by intros;simp only[xl,PD.m,nn])
theorem ED:LS C Eb true [2] 352 (pc [1,1,0,1,0,1,1,1,1,1,1,1,1,1,0,1] Tryz.f101):=fun hc=>
 pN (n':=fun p=>(((),p.1,p.2.1,()),((r7 p.2.2.1 (p.2.2.1.t7,())),()),(Eg p.t3 ((),(r5 p.t14 ((),(),(),())))),p.t19.1,p.t20.1,p.t21,())) (Jd:=⟨Vf Eb.join 1000035,Eb.call,Eb.loop⟩) hc rfl El (by intros;simp only[El,PD.m,nn])
theorem wD:LS C Eb true [2] 352 (pc [1,1,0,1,0,1,1,1,1,1,1,1,1,1,1,1,1,1,0,0,0] Tryz.f101):=fun hc=>
 pN (n':=fun p=>(((),p.1,()),(),(Eg p.2 ((),(r5 p.t12 ((),(),(),())))),p.t17.1,p.t18.1,p.t19,())) (Jd:=⟨Vf Eb.join 2000039,Eb.call,Eb.loop⟩) hc rfl vl (by intros;simp only[vl,PD.m,nn])
theorem CD:LS C Eb true [2] 352 (pc [1,1,0,1,0,1,1,1,1,1,1,1,1,1,1,1,1,1,0,1,1,1] Tryz.f101):=fun hc=>
 pN (n':=fun p=>(((),p.1,p.2.1,()),(),(Eg p.2.2 ((),(r5 p.t13 ((),(),(),())))),p.t18.1,p.t19.1,p.t20,())) (Jd:=⟨Vf Eb.join 1000043,Eb.call,Eb.loop⟩) hc rfl Dl (by intros;simp only[Dl,PD.m,nn])
theorem AD:LS C Eb true [2] 352 (pc [1,1,0,1,0,1,1,1,1,1,1,1,1,1,1,1,1,1,1,1,1,1] Tryz.f101):=fun hc=>
 pN (n':=fun p=>(((),(r3 p ())),((r7 p.t3.1 (p.t3.1.t7,())),()),(Eg p.t4 ((),(r5 p.t15 ((),(),(),())))),p.t20.1,p.t21.1,p.t22,())) (Jd:=⟨Vf Eb.join 1000047,Eb.call,Eb.loop⟩) hc rfl Qe (by intros;simp only[Qe,PD.m,nn])
theorem BD:LS C Eb true [2] 352 (pc [1,1,0,1,0,1,1,1,1,1,1,1,1,1,1,1,1,1,1,1] Tryz.f101):=fun hc=>
 pN (n':=fun p=>(((),(r3 p ())),((r7 p.t3.1 (p.t3.1.t7,())),()),(Eg p.t4 ((),(r5 p.t15 ((),(),(),())))),p.t20.1,p.t21.1,p.t22,())) (Jd:=⟨Vf Eb.join 1000045,Eb.call,Eb.loop⟩) hc rfl Hh (by intros;simp only[Hh,PD.m,nn]) (hl:=(nc (by kernel_rfl) (Ua (AD hc) Kb)))
theorem DD:LS C Eb true [2] 352 (pc [1,1,0,1,0,1,1,1,1,1,1,1,1,1,1,1,1,1] Tryz.f101):=fun hc=>
 pN (n':=fun p=>(((),(r3 p ())),((r7 p.t3.1 (p.t3.1.t7,())),()),(Eg p.t4 ((),(r5 p.t15 ((),(),(),())))),p.t20.1,p.t21.1,p.t22,())) (Jd:=⟨Vf Eb.join 1000039,Eb.call,Eb.loop⟩) hc rfl fe (by intros;simp only[fe,PD.m,nn]) (hl:=(nc (by kernel_rfl) (Ua (wD hc) (Ua (CD hc) (Ua (BD hc) Kb)))))
theorem FD:LS C Eb true [2] 352 (pc [1,1,0,1,0,1,1,1,1,1,1,1,1,1] Tryz.f101):=fun hc=>
 pN (n':=fun p=>(((),(r3 p ())),((r7 p.t3.1 (p.t3.1.t7,())),()),(Eg p.t4 ((),(r5 p.t15 ((),(),(),())))),p.t20.1,p.t21.1,p.t22,())) (Jd:=⟨Vf Eb.join 1000034,Eb.call,Eb.loop⟩) hc rfl kf (by intros;simp only[kf,PD.m,nn]) (hl:=(nc (by kernel_rfl) (Ua (ED hc) (Ua (DD hc) Kb))))
theorem GD:LS C Eb true [2] 352 (pc [1,1,0,1,0,1,1,1,1,1,1,1] Tryz.f101):=fun hc=>
 pN (n':=fun p=>(((),(r3 p ())),((r7 p.t3.1 (p.t3.1.t7,())),()),(Eg p.t4 ((),(r5 p.t15 ((),(),(),())))),p.t20.1,p.t21.1,p.t22,())) (Jd:=⟨Vf Eb.join 1000026,Eb.call,Eb.loop⟩) hc rfl kg (by intros;simp only[kg,PD.m,nn]) (hl:=(nc (by kernel_rfl) (Ua (xD hc) (Ua (FD hc) Kb))))
theorem HD:LS C Eb true [2] 352 (pc [1,1,0,1,0,1,1,1,1,1] Tryz.f101):=fun hc=>
 pN (n':=fun p=>(((),(r3 p ())),((r7 p.t3.1 (p.t3.1.t7,())),()),(Eg p.t4 ((),(r5 p.t15 ((),(),(),())))),p.t20.1,p.t21.1,p.t22,())) (Jd:=⟨Vf Eb.join 1000022,Eb.call,Eb.loop⟩) hc rfl lg (by intros;simp only[lg,PD.m,nn]) (hl:=(nc (by kernel_rfl) (Ua (GD hc) Kb)))
theorem ID:LS C Eb true [2] 352 (pc [1,1,0,1,0,1,1,1] Tryz.f101):=fun hc=>
 pN (n':=fun p=>(((),(r3 p ())),((r7 p.t3.1 (p.t3.1.t7,())),()),(Eg p.t4 ((),(r5 p.t15 ((),(),(),())))),p.t20.1,p.t21.1,p.t22,())) (Jd:=⟨Vf Eb.join 1000014,Eb.call,Eb.loop⟩) hc rfl mg (by intros;simp only[mg,PD.m,nn]) (hl:=(nc (by kernel_rfl) (Ua (yD hc) (Ua (HD hc) Kb))))
theorem HH:LS C Eb true [2] 352 (pc [1,1,0,1,0,1] Tryz.f101):=fun hc=>
 pN (n':=fun p=>(((),(r3 p ())),((r7 p.t3.1 (p.t3.1.t7,())),()),(Eg p.t4 ((),(r5 p.t15 ((),(),(),())))),p.t20.1,p.t21.1,p.t22,())) (Jd:=⟨Vf Eb.join 1000008,Eb.call,Eb.loop⟩) hc rfl Uh (by intros;simp only[Uh,PD.m,nn]) (hl:=(nc (by kernel_rfl) (Ua (zD hc) (Ua (ID hc) Kb))))
theorem OT:OK (2) 101 (pK.sp wg):=
 fO (d:=1) (env:=Eb) (Da (cc IT (cc L6 (cc FT (cc DT (cc zT (cc xT cn))))))) (fn:=Tryz.f101) (mc:=@xw) (by intros;simp only[wg,xw,nn]) (Fa:=[2]) (hl:=fun hc=>(nc (by kernel_rfl) (Ua (HH hc) Kb)))
end
end Go.U
end
