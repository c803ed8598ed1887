/- The functions of the program as Lean functions, and that the evaluator says so. -/
import Derived.Test.YtjenflkegbmkkaaGreatDoorC3
set_option linter.unusedVariables false
set_option linter.unusedSimpArgs false
set_option linter.unusedSectionVars false
open Int renaming toNat→ga
open List renaming length→fa,set→Tb
section
set_option maxRecDepth 100000
namespace Go.U
open Go Go.Proofs
noncomputable section
variable {C:V.Callee}
def lN:FS (Px) ((List Int)) where
 sk:=⟨(.cons (.ptr 0 0) (.cons (.agg Wc) .nil)),[.fb BG,.cells (.int .i64),.deep (.int .i64),.cells (.slice (.int .i64))],0⟩
 a:=fun u=>((q8 u.1.2.1),u.2.1.1,u.2.1.2.1,u.2.1.2.2.1,u.2.1.t3.1,u.2.1.t4.1,u.2.1.t5.1,u.2.1.t6.1,u.2.1.t7.1,u.2.1.t8.1,u.2.1.t9.1,u.2.1.t11.1,u.2.1.t12.1,u.2.1.t13.1,u.2.1.t14.1,u.2.1.t15.1,u.2.1.t16.1,u.2.2.1,u.t3.1,u.t4.1)
 n:=fun a=>(((),((w8 a.1),())),((a.2.1,(a.2.2.1,(a.t3.1,(a.t4.1,(a.t5.1,(a.t6.1,(a.t7.1,(a.t8.1,(a.t9.1,(a.t10.1,((),(a.t11.1,(a.t12.1,(a.t13.1,(a.t14.1,(a.t15.1,(a.t16.1,((),((),((),())))))))))))))))))))),(w3 a.t17)))
 o:=fun Z a r K=>K (.Rc []) ⟨[.fb [.lit zb a.2.1,.int .i64 a.2.2.1,.int .i64 a.t3.1,.int .i64 a.t4.1,.lit Na a.t5.1,.lit yb a.t6.1,.lit Na a.t7.1,.lit ja a.t8.1,.lit (.int .i64) a.t9.1,.int .i64 a.t10.1,.all 1,.int .i64 a.t11.1,.int .i64 a.t12.1,.int .i64 a.t13.1,.int .i64 a.t14.1,.int .i64 a.t15.1,.int .i64 a.t16.1,.Wa,.all 2,.all 3],.cells (.int .i64) r,.deep (.int .i64) a.t18.1,.cells (.slice (.int .i64)) a.t19],0⟩
def Uy {X:Type} (a:Px) (K:(List Int)->Option X):Option X:=
 ask (V.va a.1.2.1 (fa a.2.2.2.2.2.2.2.2.2.2.2.2.2.2.2.2.2.1)) (K (Tb a.2.2.2.2.2.2.2.2.2.2.2.2.2.2.2.2.2.1 (ga a.1.2.1) a.1.2.2.2.2.1))
def Nq:=fun a=>Uy a some
def xV:Spec:=lN.sp Nq
noncomputable def N2:Env:=⟨fun k=>[].contains k,Cb [],fun X k s K=>none⟩
theorem yV:OK (1) 80 (lN.sp Nq):=
 fO (d:=0) (env:=N2) (Aa cn) (fn:=Tryz.f80) (mc:=@Uy) (by intros;simp only [Nq,Uy,nn]) (za:=[3])
def nN:FS (Y19) (Unit) where
 sk:=⟨(.cons (.ptr 0 0) (.cons (.agg Wc) (.cons (.int .i64) .nil))),[.fb BG,.cells (.int .i64),.deep (.int .i64),.cells (.slice (.int .i64))],0⟩
 a:=fun u=>((q8 u.1.2.1),u.1.2.2.1,u.2.1.1,u.2.1.2.1,u.2.1.2.2.1,u.2.1.t3.1,u.2.1.t4.1,u.2.1.t5.1,u.2.1.t6.1,u.2.1.t7.1,u.2.1.t8.1,u.2.1.t9.1,u.2.1.t11.1,u.2.1.t12.1,u.2.1.t13.1,u.2.1.t14.1,u.2.1.t15.1,u.2.1.t16.1,u.2.2.1,u.t3.1,u.t4.1)
 n:=fun a=>(((),((w8 a.1),(a.2.1,()))),((a.2.2.1,(a.t3.1,(a.t4.1,(a.t5.1,(a.t6.1,(a.t7.1,(a.t8.1,(a.t9.1,(a.t10.1,(a.t11.1,((),(a.t12.1,(a.t13.1,(a.t14.1,(a.t15.1,(a.t16.1,(a.t17.1,((),((),((),())))))))))))))))))))),(w3 a.t18)))
 o:=fun Z a r K=>K (.Rc []) ⟨[.fb [.lit zb a.2.2.1,.int .i64 a.t3.1,.int .i64 a.t4.1,.int .i64 a.t5.1,.lit Na a.t6.1,.lit yb a.t7.1,.lit Na a.t8.1,.lit ja a.t9.1,.lit (.int .i64) a.t10.1,.int .i64 a.t11.1,.all 1,.int .i64 a.t12.1,.int .i64 1,.int .i64 a.1.t5.1,.int .i64 a.2.1,.int .i64 a.t16.1,.int .i64 a.t17.1,.Wa,.all 2,.all 3],.cells (.int .i64) a.t18.1,.deep (.int .i64) a.t19.1,.cells (.slice (.int .i64)) a.t20],0⟩
def lF {X:Type} (a:Y19) (K:Unit->Option X):Option X:=
 K ()
def kF:=fun a=>lF a some
def cg:Spec:=nN.sp kF
noncomputable def Q2:Env:=⟨fun k=>[].contains k,Cb [],fun X k s K=>none⟩
theorem fg:OK (1) 78 (nN.sp kF):=
 fO (d:=0) (env:=Q2) (Aa cn) (fn:=Tryz.f78) (mc:=@lF) (by intros;simp only [kF,lF,nn]) (za:=[4])
def oF:FS (BO) (ZD) where
 sk:=⟨(.cons (.ptr 2 0) (.cons (.agg Wc) (.cons (.ptr 0 0) (.cons (.ptr 1 0) .nil)))),[.fb (.cons (.fn 81 .nil) .nil),.fb (.cons .bool .nil),.fb J8,.cells (.int .i64),.deep (.int .i64),.cells (.slice (.int .i64))],0⟩
 a:=fun u=>((q8 u.1.2.1),u.2.2.1.1,u.t3.1.1,u.t3.1.2.1,u.t3.1.2.2.1,u.t3.1.t3.1,u.t3.1.t4.1,u.t3.1.t5.1,u.t3.1.t6.1,u.t3.1.t7.1,u.t3.1.t8.1,u.t3.1.t9.1,u.t3.1.t11.1,u.t3.1.t12.1,u.t3.1.t13.1,u.t3.1.t14.1,u.t3.1.t15.1,u.t3.1.t16.1,u.t4.1,u.t5.1,u.t6.1)
 n:=fun a=>(((),((w8 a.1),((),((),())))),(((),()),((a.2.1,()),((a.2.2.1,(a.t3.1,(a.t4.1,(a.t5.1,(a.t6.1,(a.t7.1,(a.t8.1,(a.t9.1,(a.t10.1,(a.t11.1,((),(a.t12.1,(a.t13.1,(a.t14.1,(a.t15.1,(a.t16.1,(a.t17.1,((),((),((),())))))))))))))))))))),(w3 a.t18)))))
 o:=fun Z a r K=>K (.Rc []) ⟨[.fb [.fn 81 []],.fb [.bool a.2.1],.fb [.lit zb a.2.2.1,.int .i64 a.t3.1,.int .i64 a.t4.1,.int .i64 a.t5.1,.lit Na a.t6.1,.lit yb a.t7.1,.lit Na a.t8.1,.lit ja a.t9.1,.lit (.int .i64) a.t10.1,.int .i64 a.t11.1,.all 3,.int .i64 a.t12.1,.int .i64 r.1,.int .i64 r.2.1,.int .i64 r.2.2.1,.int .i64 a.t16.1,.int .i64 a.t17.1,.Wa,.all 4,.all 5],.cells (.int .i64) r.t3,.deep (.int .i64) a.t19.1,.cells (.slice (.int .i64)) a.t20],0⟩
def Xy {X:Type} (a:BO) (K:(ZD)->Option X):Option X:=
 ask (V.va a.1.2.2.1 (fa a.2.2.2.2.2.2.2.2.2.2.2.2.2.2.2.2.2.2.1)) (ask (V.va a.1.2.2.2.1 (fa a.2.2.2.2.2.2.2.2.2.2.2.2.2.2.2.2.2.2.1)) (cond a.2.1
 ((Xk ((Ga ((0:Int)-(gx a.2.2.2.2.2.2.2.2.2.2.2.2.2.2.2.2.2.2.1 (ga a.1.2.2.1) (0:Int)))),3)).bind fun r1=>
 cond (!r1)
 (K (1,a.1.2.2.2.2.2.1,1,a.2.2.2.2.2.2.2.2.2.2.2.2.2.2.2.2.2.2.1))
 (ask (V.va a.1.2.1 (fa a.2.2.2.2.2.2.2.2.2.2.2.2.2.2.2.2.2.2.1)) (K (a.2.2.2.2.2.2.2.2.2.2.2.2.2.1,a.2.2.2.2.2.2.2.2.2.2.2.2.2.2.1,a.2.2.2.2.2.2.2.2.2.2.2.2.2.2.2.1,(Tb a.2.2.2.2.2.2.2.2.2.2.2.2.2.2.2.2.2.2.1 (ga a.1.2.1) (Ga ((0:Int)-(gx a.2.2.2.2.2.2.2.2.2.2.2.2.2.2.2.2.2.2.1 (ga a.1.2.2.1) (0:Int)))))))))
 (ask (V.va a.1.2.1 (fa a.2.2.2.2.2.2.2.2.2.2.2.2.2.2.2.2.2.2.1)) (K (a.2.2.2.2.2.2.2.2.2.2.2.2.2.1,a.2.2.2.2.2.2.2.2.2.2.2.2.2.2.1,a.2.2.2.2.2.2.2.2.2.2.2.2.2.2.2.1,(Tb a.2.2.2.2.2.2.2.2.2.2.2.2.2.2.2.2.2.2.1 (ga a.1.2.1) (Ga ((0:Int)-(gx a.2.2.2.2.2.2.2.2.2.2.2.2.2.2.2.2.2.2.1 (ga a.1.2.2.1) (0:Int))))))))))
def Qq:=fun a=>Xy a some
def KV:Spec:=oF.sp Qq
noncomputable def U2:Env:=⟨fun k=>[].contains k,Cb [(81,m_),(77,Bn),(78,cg)],fun X k s K=>none⟩
theorem LV:OK (2) 76 (oF.sp Qq):=
 fO (d:=1) (env:=U2) (Aa (cc n_ (cc Cn (cc fg cn)))) (fn:=Tryz.f76) (mc:=@Xy) (by intros;simp only [Qq,Xy,nn]) (za:=[5])
def nF:FS (BO) (ZD) where
 sk:=⟨(.cons (.ptr 2 0) (.cons (.agg Wc) (.cons (.ptr 0 0) (.cons (.ptr 1 0) .nil)))),[.fb (.cons (.fn 82 .nil) .nil),.fb (.cons .bool .nil),.fb J8,.cells (.int .i64),.deep (.int .i64),.cells (.slice (.int .i64))],0⟩
 a:=fun u=>((q8 u.1.2.1),u.2.2.1.1,u.t3.1.1,u.t3.1.2.1,u.t3.1.2.2.1,u.t3.1.t3.1,u.t3.1.t4.1,u.t3.1.t5.1,u.t3.1.t6.1,u.t3.1.t7.1,u.t3.1.t8.1,u.t3.1.t9.1,u.t3.1.t11.1,u.t3.1.t12.1,u.t3.1.t13.1,u.t3.1.t14.1,u.t3.1.t15.1,u.t3.1.t16.1,u.t4.1,u.t5.1,u.t6.1)
 n:=fun a=>(((),((w8 a.1),((),((),())))),(((),()),((a.2.1,()),((a.2.2.1,(a.t3.1,(a.t4.1,(a.t5.1,(a.t6.1,(a.t7.1,(a.t8.1,(a.t9.1,(a.t10.1,(a.t11.1,((),(a.t12.1,(a.t13.1,(a.t14.1,(a.t15.1,(a.t16.1,(a.t17.1,((),((),((),())))))))))))))))))))),(w3 a.t18)))))
 o:=fun Z a r K=>K (.Rc []) ⟨[.fb [.fn 82 []],.fb [.bool a.2.1],.fb [.lit zb a.2.2.1,.int .i64 a.t3.1,.int .i64 a.t4.1,.int .i64 a.t5.1,.lit Na a.t6.1,.lit yb a.t7.1,.lit Na a.t8.1,.lit ja a.t9.1,.lit (.int .i64) a.t10.1,.int .i64 a.t11.1,.all 3,.int .i64 a.t12.1,.int .i64 r.1,.int .i64 r.2.1,.int .i64 r.2.2.1,.int .i64 a.t16.1,.int .i64 a.t17.1,.Wa,.all 4,.all 5],.cells (.int .i64) r.t3,.deep (.int .i64) a.t19.1,.cells (.slice (.int .i64)) a.t20],0⟩
def Wy {X:Type} (a:BO) (K:(ZD)->Option X):Option X:=
 ask (V.va a.1.2.2.1 (fa a.2.2.2.2.2.2.2.2.2.2.2.2.2.2.2.2.2.2.1)) (ask (V.va a.1.2.2.2.1 (fa a.2.2.2.2.2.2.2.2.2.2.2.2.2.2.2.2.2.2.1)) (cond a.2.1
 ((Xk ((if (Ga ((0:Int)-(gx a.2.2.2.2.2.2.2.2.2.2.2.2.2.2.2.2.2.2.1 (ga a.1.2.2.1) (0:Int))))>(gx a.2.2.2.2.2.2.2.2.2.2.2.2.2.2.2.2.2.2.1 (ga a.1.2.2.1) (0:Int)) then (Ga ((0:Int)-(gx a.2.2.2.2.2.2.2.2.2.2.2.2.2.2.2.2.2.2.1 (ga a.1.2.2.1) (0:Int)))) else (gx a.2.2.2.2.2.2.2.2.2.2.2.2.2.2.2.2.2.2.1 (ga a.1.2.2.1) (0:Int))),3)).bind fun r1=>
 cond (!r1)
 (K (1,a.1.2.2.2.2.2.1,1,a.2.2.2.2.2.2.2.2.2.2.2.2.2.2.2.2.2.2.1))
 (ask (V.va a.1.2.1 (fa a.2.2.2.2.2.2.2.2.2.2.2.2.2.2.2.2.2.2.1)) (K (a.2.2.2.2.2.2.2.2.2.2.2.2.2.1,a.2.2.2.2.2.2.2.2.2.2.2.2.2.2.1,a.2.2.2.2.2.2.2.2.2.2.2.2.2.2.2.1,(Tb a.2.2.2.2.2.2.2.2.2.2.2.2.2.2.2.2.2.2.1 (ga a.1.2.1) (if (Ga ((0:Int)-(gx a.2.2.2.2.2.2.2.2.2.2.2.2.2.2.2.2.2.2.1 (ga a.1.2.2.1) (0:Int))))>(gx a.2.2.2.2.2.2.2.2.2.2.2.2.2.2.2.2.2.2.1 (ga a.1.2.2.1) (0:Int)) then (Ga ((0:Int)-(gx a.2.2.2.2.2.2.2.2.2.2.2.2.2.2.2.2.2.2.1 (ga a.1.2.2.1) (0:Int)))) else (gx a.2.2.2.2.2.2.2.2.2.2.2.2.2.2.2.2.2.2.1 (ga a.1.2.2.1) (0:Int))))))))
 (ask (V.va a.1.2.1 (fa a.2.2.2.2.2.2.2.2.2.2.2.2.2.2.2.2.2.2.1)) (K (a.2.2.2.2.2.2.2.2.2.2.2.2.2.1,a.2.2.2.2.2.2.2.2.2.2.2.2.2.2.1,a.2.2.2.2.2.2.2.2.2.2.2.2.2.2.2.1,(Tb a.2.2.2.2.2.2.2.2.2.2.2.2.2.2.2.2.2.2.1 (ga a.1.2.1) (if (Ga ((0:Int)-(gx a.2.2.2.2.2.2.2.2.2.2.2.2.2.2.2.2.2.2.1 (ga a.1.2.2.1) (0:Int))))>(gx a.2.2.2.2.2.2.2.2.2.2.2.2.2.2.2.2.2.2.1 (ga a.1.2.2.1) (0:Int)) then (Ga ((0:Int)-(gx a.2.2.2.2.2.2.2.2.2.2.2.2.2.2.2.2.2.2.1 (ga a.1.2.2.1) (0:Int)))) else (gx a.2.2.2.2.2.2.2.2.2.2.2.2.2.2.2.2.2.2.1 (ga a.1.2.2.1) (0:Int)))))))))
def Pq:=fun a=>Wy a some
def HV:Spec:=nF.sp Pq
noncomputable def S2:Env:=⟨fun k=>[].contains k,Cb [(82,k_),(77,Bn),(78,cg)],fun X k s K=>none⟩
theorem IV:OK (2) 76 (nF.sp Pq):=
 fO (d:=1) (env:=S2) (Aa (cc l_ (cc Cn (cc fg cn)))) (fn:=Tryz.f76) (mc:=@Wy) (by intros;simp only [Pq,Wy,nn]) (za:=[5])
def mF:FS (BO) (ZD) where
 sk:=⟨(.cons (.ptr 2 0) (.cons (.agg Wc) (.cons (.ptr 0 0) (.cons (.ptr 1 0) .nil)))),[.fb (.cons (.fn 83 .nil) .nil),.fb (.cons .bool .nil),.fb J8,.cells (.int .i64),.deep (.int .i64),.cells (.slice (.int .i64))],0⟩
 a:=fun u=>((q8 u.1.2.1),u.2.2.1.1,u.t3.1.1,u.t3.1.2.1,u.t3.1.2.2.1,u.t3.1.t3.1,u.t3.1.t4.1,u.t3.1.t5.1,u.t3.1.t6.1,u.t3.1.t7.1,u.t3.1.t8.1,u.t3.1.t9.1,u.t3.1.t11.1,u.t3.1.t12.1,u.t3.1.t13.1,u.t3.1.t14.1,u.t3.1.t15.1,u.t3.1.t16.1,u.t4.1,u.t5.1,u.t6.1)
 n:=fun a=>(((),((w8 a.1),((),((),())))),(((),()),((a.2.1,()),((a.2.2.1,(a.t3.1,(a.t4.1,(a.t5.1,(a.t6.1,(a.t7.1,(a.t8.1,(a.t9.1,(a.t10.1,(a.t11.1,((),(a.t12.1,(a.t13.1,(a.t14.1,(a.t15.1,(a.t16.1,(a.t17.1,((),((),((),())))))))))))))))))))),(w3 a.t18)))))
 o:=fun Z a r K=>K (.Rc []) ⟨[.fb [.fn 83 []],.fb [.bool a.2.1],.fb [.lit zb a.2.2.1,.int .i64 a.t3.1,.int .i64 a.t4.1,.int .i64 a.t5.1,.lit Na a.t6.1,.lit yb a.t7.1,.lit Na a.t8.1,.lit ja a.t9.1,.lit (.int .i64) a.t10.1,.int .i64 a.t11.1,.all 3,.int .i64 a.t12.1,.int .i64 r.1,.int .i64 r.2.1,.int .i64 r.2.2.1,.int .i64 a.t16.1,.int .i64 a.t17.1,.Wa,.all 4,.all 5],.cells (.int .i64) r.t3,.deep (.int .i64) a.t19.1,.cells (.slice (.int .i64)) a.t20],0⟩
def Vy {X:Type} (a:BO) (K:(ZD)->Option X):Option X:=
 ask (V.va a.1.2.2.1 (fa a.2.2.2.2.2.2.2.2.2.2.2.2.2.2.2.2.2.2.1)) (ask (V.va a.1.2.2.2.1 (fa a.2.2.2.2.2.2.2.2.2.2.2.2.2.2.2.2.2.2.1)) (cond a.2.1
 ((Xk ((Ga ((gx a.2.2.2.2.2.2.2.2.2.2.2.2.2.2.2.2.2.2.1 (ga a.1.2.2.1) (0:Int))+(gx a.2.2.2.2.2.2.2.2.2.2.2.2.2.2.2.2.2.2.1 (ga a.1.2.2.2.1) (0:Int)))),3)).bind fun r1=>
 cond (!r1)
 (K (1,a.1.2.2.2.2.2.1,1,a.2.2.2.2.2.2.2.2.2.2.2.2.2.2.2.2.2.2.1))
 (ask (V.va a.1.2.1 (fa a.2.2.2.2.2.2.2.2.2.2.2.2.2.2.2.2.2.2.1)) (K (a.2.2.2.2.2.2.2.2.2.2.2.2.2.1,a.2.2.2.2.2.2.2.2.2.2.2.2.2.2.1,a.2.2.2.2.2.2.2.2.2.2.2.2.2.2.2.1,(Tb a.2.2.2.2.2.2.2.2.2.2.2.2.2.2.2.2.2.2.1 (ga a.1.2.1) (Ga ((gx a.2.2.2.2.2.2.2.2.2.2.2.2.2.2.2.2.2.2.1 (ga a.1.2.2.1) (0:Int))+(gx a.2.2.2.2.2.2.2.2.2.2.2.2.2.2.2.2.2.2.1 (ga a.1.2.2.2.1) (0:Int)))))))))
 (ask (V.va a.1.2.1 (fa a.2.2.2.2.2.2.2.2.2.2.2.2.2.2.2.2.2.2.1)) (K (a.2.2.2.2.2.2.2.2.2.2.2.2.2.1,a.2.2.2.2.2.2.2.2.2.2.2.2.2.2.1,a.2.2.2.2.2.2.2.2.2.2.2.2.2.2.2.1,(Tb a.2.2.2.2.2.2.2.2.2.2.2.2.2.2.2.2.2.2.1 (ga a.1.2.1) (Ga ((gx a.2.2.2.2.2.2.2.2.2.2.2.2.2.2.2.2.2.2.1 (ga a.1.2.2.1) (0:Int))+(gx a.2.2.2.2.2.2.2.2.2.2.2.2.2.2.2.2.2.2.1 (ga a.1.2.2.2.1) (0:Int))))))))))
def Oq:=fun a=>Vy a some
def EV:Spec:=mF.sp Oq
noncomputable def R2:Env:=⟨fun k=>[].contains k,Cb [(83,i_),(77,Bn),(78,cg)],fun X k s K=>none⟩
theorem FV:OK (2) 76 (mF.sp Oq):=
 fO (d:=1) (env:=R2) (Aa (cc j_ (cc Cn (cc fg cn)))) (fn:=Tryz.f76) (mc:=@Vy) (by intros;simp only [Oq,Vy,nn]) (za:=[5])
def DA:FS (BO) (ZD) where
 sk:=⟨(.cons (.ptr 2 0) (.cons (.agg Wc) (.cons (.ptr 0 0) (.cons (.ptr 1 0) .nil)))),[.fb (.cons (.fn 84 .nil) .nil),.fb (.cons .bool .nil),.fb J8,.cells (.int .i64),.deep (.int .i64),.cells (.slice (.int .i64))],0⟩
 a:=fun u=>((q8 u.1.2.1),u.2.2.1.1,u.t3.1.1,u.t3.1.2.1,u.t3.1.2.2.1,u.t3.1.t3.1,u.t3.1.t4.1,u.t3.1.t5.1,u.t3.1.t6.1,u.t3.1.t7.1,u.t3.1.t8.1,u.t3.1.t9.1,u.t3.1.t11.1,u.t3.1.t12.1,u.t3.1.t13.1,u.t3.1.t14.1,u.t3.1.t15.1,u.t3.1.t16.1,u.t4.1,u.t5.1,u.t6.1)
 n:=fun a=>(((),((w8 a.1),((),((),())))),(((),()),((a.2.1,()),((a.2.2.1,(a.t3.1,(a.t4.1,(a.t5.1,(a.t6.1,(a.t7.1,(a.t8.1,(a.t9.1,(a.t10.1,(a.t11.1,((),(a.t12.1,(a.t13.1,(a.t14.1,(a.t15.1,(a.t16.1,(a.t17.1,((),((),((),())))))))))))))))))))),(w3 a.t18)))))
 o:=fun Z a r K=>K (.Rc []) ⟨[.fb [.fn 84 []],.fb [.bool a.2.1],.fb [.lit zb a.2.2.1,.int .i64 a.t3.1,.int .i64 a.t4.1,.int .i64 a.t5.1,.lit Na a.t6.1,.lit yb a.t7.1,.lit Na a.t8.1,.lit ja a.t9.1,.lit (.int .i64) a.t10.1,.int .i64 a.t11.1,.all 3,.int .i64 a.t12.1,.int .i64 r.1,.int .i64 r.2.1,.int .i64 r.2.2.1,.int .i64 a.t16.1,.int .i64 a.t17.1,.Wa,.all 4,.all 5],.cells (.int .i64) r.t3,.deep (.int .i64) a.t19.1,.cells (.slice (.int .i64)) a.t20],0⟩
def wu {X:Type} (a:BO) (K:(ZD)->Option X):Option X:=
 ask (V.va a.1.2.2.1 (fa a.2.2.2.2.2.2.2.2.2.2.2.2.2.2.2.2.2.2.1)) (ask (V.va a.1.2.2.2.1 (fa a.2.2.2.2.2.2.2.2.2.2.2.2.2.2.2.2.2.2.1)) (cond a.2.1
 ((Xk ((Ga ((gx a.2.2.2.2.2.2.2.2.2.2.2.2.2.2.2.2.2.2.1 (ga a.1.2.2.1) (0:Int))-(gx a.2.2.2.2.2.2.2.2.2.2.2.2.2.2.2.2.2.2.1 (ga a.1.2.2.2.1) (0:Int)))),3)).bind fun r1=>
 cond (!r1)
 (K (1,a.1.2.2.2.2.2.1,1,a.2.2.2.2.2.2.2.2.2.2.2.2.2.2.2.2.2.2.1))
 (ask (V.va a.1.2.1 (fa a.2.2.2.2.2.2.2.2.2.2.2.2.2.2.2.2.2.2.1)) (K (a.2.2.2.2.2.2.2.2.2.2.2.2.2.1,a.2.2.2.2.2.2.2.2.2.2.2.2.2.2.1,a.2.2.2.2.2.2.2.2.2.2.2.2.2.2.2.1,(Tb a.2.2.2.2.2.2.2.2.2.2.2.2.2.2.2.2.2.2.1 (ga a.1.2.1) (Ga ((gx a.2.2.2.2.2.2.2.2.2.2.2.2.2.2.2.2.2.2.1 (ga a.1.2.2.1) (0:Int))-(gx a.2.2.2.2.2.2.2.2.2.2.2.2.2.2.2.2.2.2.1 (ga a.1.2.2.2.1) (0:Int)))))))))
 (ask (V.va a.1.2.1 (fa a.2.2.2.2.2.2.2.2.2.2.2.2.2.2.2.2.2.2.1)) (K (a.2.2.2.2.2.2.2.2.2.2.2.2.2.1,a.2.2.2.2.2.2.2.2.2.2.2.2.2.2.1,a.2.2.2.2.2.2.2.2.2.2.2.2.2.2.2.1,(Tb a.2.2.2.2.2.2.2.2.2.2.2.2.2.2.2.2.2.2.1 (ga a.1.2.1) (Ga ((gx a.2.2.2.2.2.2.2.2.2.2.2.2.2.2.2.2.2.2.1 (ga a.1.2.2.1) (0:Int))-(gx a.2.2.2.2.2.2.2.2.2.2.2.2.2.2.2.2.2.2.1 (ga a.1.2.2.2.1) (0:Int))))))))))
def Gm:=fun a=>wu a some
def qQ:Spec:=DA.sp Gm
noncomputable def QV:Env:=⟨fun k=>[].contains k,Cb [(84,g_),(77,Bn),(78,cg)],fun X k s K=>none⟩
theorem rQ:OK (2) 76 (DA.sp Gm):=
 fO (d:=1) (env:=QV) (Aa (cc h_ (cc Cn (cc fg cn)))) (fn:=Tryz.f76) (mc:=@wu) (by intros;simp only [Gm,wu,nn]) (za:=[5])
def CA:FS (BO) (ZD) where
 sk:=⟨(.cons (.ptr 2 0) (.cons (.agg Wc) (.cons (.ptr 0 0) (.cons (.ptr 1 0) .nil)))),[.fb (.cons (.fn 85 .nil) .nil),.fb (.cons .bool .nil),.fb J8,.cells (.int .i64),.deep (.int .i64),.cells (.slice (.int .i64))],0⟩
 a:=fun u=>((q8 u.1.2.1),u.2.2.1.1,u.t3.1.1,u.t3.1.2.1,u.t3.1.2.2.1,u.t3.1.t3.1,u.t3.1.t4.1,u.t3.1.t5.1,u.t3.1.t6.1,u.t3.1.t7.1,u.t3.1.t8.1,u.t3.1.t9.1,u.t3.1.t11.1,u.t3.1.t12.1,u.t3.1.t13.1,u.t3.1.t14.1,u.t3.1.t15.1,u.t3.1.t16.1,u.t4.1,u.t5.1,u.t6.1)
 n:=fun a=>(((),((w8 a.1),((),((),())))),(((),()),((a.2.1,()),((a.2.2.1,(a.t3.1,(a.t4.1,(a.t5.1,(a.t6.1,(a.t7.1,(a.t8.1,(a.t9.1,(a.t10.1,(a.t11.1,((),(a.t12.1,(a.t13.1,(a.t14.1,(a.t15.1,(a.t16.1,(a.t17.1,((),((),((),())))))))))))))))))))),(w3 a.t18)))))
 o:=fun Z a r K=>K (.Rc []) ⟨[.fb [.fn 85 []],.fb [.bool a.2.1],.fb [.lit zb a.2.2.1,.int .i64 a.t3.1,.int .i64 a.t4.1,.int .i64 a.t5.1,.lit Na a.t6.1,.lit yb a.t7.1,.lit Na a.t8.1,.lit ja a.t9.1,.lit (.int .i64) a.t10.1,.int .i64 a.t11.1,.all 3,.int .i64 a.t12.1,.int .i64 r.1,.int .i64 r.2.1,.int .i64 r.2.2.1,.int .i64 a.t16.1,.int .i64 a.t17.1,.Wa,.all 4,.all 5],.cells (.int .i64) r.t3,.deep (.int .i64) a.t19.1,.cells (.slice (.int .i64)) a.t20],0⟩
def vu {X:Type} (a:BO) (K:(ZD)->Option X):Option X:=
 ask (V.va a.1.2.2.1 (fa a.2.2.2.2.2.2.2.2.2.2.2.2.2.2.2.2.2.2.1)) (ask (V.va a.1.2.2.2.1 (fa a.2.2.2.2.2.2.2.2.2.2.2.2.2.2.2.2.2.2.1)) (cond a.2.1
 ((Xk ((Ga ((gx a.2.2.2.2.2.2.2.2.2.2.2.2.2.2.2.2.2.2.1 (ga a.1.2.2.1) (0:Int)) * (gx a.2.2.2.2.2.2.2.2.2.2.2.2.2.2.2.2.2.2.1 (ga a.1.2.2.2.1) (0:Int)))),3)).bind fun r1=>
 cond (!r1)
 (K (1,a.1.2.2.2.2.2.1,1,a.2.2.2.2.2.2.2.2.2.2.2.2.2.2.2.2.2.2.1))
 (ask (V.va a.1.2.1 (fa a.2.2.2.2.2.2.2.2.2.2.2.2.2.2.2.2.2.2.1)) (K (a.2.2.2.2.2.2.2.2.2.2.2.2.2.1,a.2.2.2.2.2.2.2.2.2.2.2.2.2.2.1,a.2.2.2.2.2.2.2.2.2.2.2.2.2.2.2.1,(Tb a.2.2.2.2.2.2.2.2.2.2.2.2.2.2.2.2.2.2.1 (ga a.1.2.1) (Ga ((gx a.2.2.2.2.2.2.2.2.2.2.2.2.2.2.2.2.2.2.1 (ga a.1.2.2.1) (0:Int)) * (gx a.2.2.2.2.2.2.2.2.2.2.2.2.2.2.2.2.2.2.1 (ga a.1.2.2.2.1) (0:Int)))))))))
 (ask (V.va a.1.2.1 (fa a.2.2.2.2.2.2.2.2.2.2.2.2.2.2.2.2.2.2.1)) (K (a.2.2.2.2.2.2.2.2.2.2.2.2.2.1,a.2.2.2.2.2.2.2.2.2.2.2.2.2.2.1,a.2.2.2.2.2.2.2.2.2.2.2.2.2.2.2.1,(Tb a.2.2.2.2.2.2.2.2.2.2.2.2.2.2.2.2.2.2.1 (ga a.1.2.1) (Ga ((gx a.2.2.2.2.2.2.2.2.2.2.2.2.2.2.2.2.2.2.1 (ga a.1.2.2.1) (0:Int)) * (gx a.2.2.2.2.2.2.2.2.2.2.2.2.2.2.2.2.2.2.1 (ga a.1.2.2.2.1) (0:Int))))))))))
def Fm:=fun a=>vu a some
def nQ:Spec:=CA.sp Fm
noncomputable def PV:Env:=⟨fun k=>[].contains k,Cb [(85,e_),(77,Bn),(78,cg)],fun X k s K=>none⟩
theorem oQ:OK (2) 76 (CA.sp Fm):=
 fO (d:=1) (env:=PV) (Aa (cc f_ (cc Cn (cc fg cn)))) (fn:=Tryz.f76) (mc:=@vu) (by intros;simp only [Fm,vu,nn]) (za:=[5])
end
end Go.U
end
