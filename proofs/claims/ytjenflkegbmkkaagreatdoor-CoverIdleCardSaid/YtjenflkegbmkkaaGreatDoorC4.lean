/- The functions of the program as Lean functions, and that the evaluator says so. -/
import Derived.Test.YtjenflkegbmkkaaGreatDoorC3
set_option linter.unusedVariables false
set_option linter.unusedSimpArgs false
set_option linter.unusedSectionVars false
open Int renaming toNat→ga
open List renaming length→fa,set→Tb
section
set_option maxRecDepth 100000
namespace Go.U
open Go Go.Proofs
noncomputable section
variable {C:V.Callee}
def lN:FS (Tx) ((List Int)) where
 sk:=⟨(.cons (.ptr 0 0) (.cons (.agg Wc) .nil)),[.fb DG,.cells (.int .i64),.deep (.int .i64),.cells (.slice (.int .i64))],0⟩
 a:=fun u=>((q8 u.1.2.1),u.2.1.1,u.2.1.2.1,u.2.1.2.2.1,u.2.1.t3.1,u.2.1.t4.1,u.2.1.t5.1,u.2.1.t6.1,u.2.1.t7.1,u.2.1.t8.1,u.2.1.t9.1,u.2.1.t11.1,u.2.1.t12.1,u.2.1.t13.1,u.2.1.t14.1,u.2.1.t15.1,u.2.1.t16.1,u.2.2.1,u.t3.1,u.t4.1)
 n:=fun a=>(((),((w8 a.1),())),((a.2.1,(a.2.2.1,(a.t3.1,(a.t4.1,(a.t5.1,(a.t6.1,(a.t7.1,(a.t8.1,(a.t9.1,(a.t10.1,((),(a.t11.1,(a.t12.1,(a.t13.1,(a.t14.1,(a.t15.1,(a.t16.1,((),((),((),())))))))))))))))))))),(w3 a.t17)))
 o:=fun Z a r K=>K (.Rc []) ⟨[.fb [.lit zb a.2.1,.int .i64 a.2.2.1,.int .i64 a.t3.1,.int .i64 a.t4.1,.lit Na a.t5.1,.lit yb a.t6.1,.lit Na a.t7.1,.lit ja a.t8.1,.lit (.int .i64) a.t9.1,.int .i64 a.t10.1,.all 1,.int .i64 a.t11.1,.int .i64 a.t12.1,.int .i64 a.t13.1,.int .i64 a.t14.1,.int .i64 a.t15.1,.int .i64 a.t16.1,.Wa,.all 2,.all 3],.cells (.int .i64) r,.deep (.int .i64) a.t18.1,.cells (.slice (.int .i64)) a.t19],0⟩
def Vy {X:Type} (a:Tx) (K:(List Int)->Option X):Option X:=
 ask (V.va a.1.2.1 (fa a.2.2.2.2.2.2.2.2.2.2.2.2.2.2.2.2.2.1)) (K (Tb a.2.2.2.2.2.2.2.2.2.2.2.2.2.2.2.2.2.1 (ga a.1.2.1) a.1.2.2.2.2.1))
def Oq:=fun a=>Vy a some
def wV:Spec:=lN.sp Oq
noncomputable def M2:Env:=⟨fun k=>[].contains k,Cb [],fun X k s K=>none⟩
theorem xV:OK (1) 80 (lN.sp Oq):=
 fO (d:=0) (env:=M2) (Aa cn) (fn:=Tryz.f80) (mc:=@Vy) (by intros;simp only [Oq,Vy,nn]) (za:=[3])
def nN:FS (Y19) (Unit) where
 sk:=⟨(.cons (.ptr 0 0) (.cons (.agg Wc) (.cons (.int .i64) .nil))),[.fb DG,.cells (.int .i64),.deep (.int .i64),.cells (.slice (.int .i64))],0⟩
 a:=fun u=>((q8 u.1.2.1),u.1.2.2.1,u.2.1.1,u.2.1.2.1,u.2.1.2.2.1,u.2.1.t3.1,u.2.1.t4.1,u.2.1.t5.1,u.2.1.t6.1,u.2.1.t7.1,u.2.1.t8.1,u.2.1.t9.1,u.2.1.t11.1,u.2.1.t12.1,u.2.1.t13.1,u.2.1.t14.1,u.2.1.t15.1,u.2.1.t16.1,u.2.2.1,u.t3.1,u.t4.1)
 n:=fun a=>(((),((w8 a.1),(a.2.1,()))),((a.2.2.1,(a.t3.1,(a.t4.1,(a.t5.1,(a.t6.1,(a.t7.1,(a.t8.1,(a.t9.1,(a.t10.1,(a.t11.1,((),(a.t12.1,(a.t13.1,(a.t14.1,(a.t15.1,(a.t16.1,(a.t17.1,((),((),((),())))))))))))))))))))),(w3 a.t18)))
 o:=fun Z a r K=>K (.Rc []) ⟨[.fb [.lit zb a.2.2.1,.int .i64 a.t3.1,.int .i64 a.t4.1,.int .i64 a.t5.1,.lit Na a.t6.1,.lit yb a.t7.1,.lit Na a.t8.1,.lit ja a.t9.1,.lit (.int .i64) a.t10.1,.int .i64 a.t11.1,.all 1,.int .i64 a.t12.1,.int .i64 1,.int .i64 a.1.t5.1,.int .i64 a.2.1,.int .i64 a.t16.1,.int .i64 a.t17.1,.Wa,.all 2,.all 3],.cells (.int .i64) a.t18.1,.deep (.int .i64) a.t19.1,.cells (.slice (.int .i64)) a.t20],0⟩
def lF {X:Type} (a:Y19) (K:Unit->Option X):Option X:=
 K ()
def kF:=fun a=>lF a some
def cg:Spec:=nN.sp kF
noncomputable def O2:Env:=⟨fun k=>[].contains k,Cb [],fun X k s K=>none⟩
theorem fg:OK (1) 78 (nN.sp kF):=
 fO (d:=0) (env:=O2) (Aa cn) (fn:=Tryz.f78) (mc:=@lF) (by intros;simp only [kF,lF,nn]) (za:=[4])
def oF:FS (AO) (YD) where
 sk:=⟨(.cons (.ptr 2 0) (.cons (.agg Wc) (.cons (.ptr 0 0) (.cons (.ptr 1 0) .nil)))),[.fb (.cons (.fn 81 .nil) .nil),.fb (.cons .bool .nil),.fb J8,.cells (.int .i64),.deep (.int .i64),.cells (.slice (.int .i64))],0⟩
 a:=fun u=>((q8 u.1.2.1),u.2.2.1.1,u.t3.1.1,u.t3.1.2.1,u.t3.1.2.2.1,u.t3.1.t3.1,u.t3.1.t4.1,u.t3.1.t5.1,u.t3.1.t6.1,u.t3.1.t7.1,u.t3.1.t8.1,u.t3.1.t9.1,u.t3.1.t11.1,u.t3.1.t12.1,u.t3.1.t13.1,u.t3.1.t14.1,u.t3.1.t15.1,u.t3.1.t16.1,u.t4.1,u.t5.1,u.t6.1)
 n:=fun a=>(((),((w8 a.1),((),((),())))),(((),()),((a.2.1,()),((a.2.2.1,(a.t3.1,(a.t4.1,(a.t5.1,(a.t6.1,(a.t7.1,(a.t8.1,(a.t9.1,(a.t10.1,(a.t11.1,((),(a.t12.1,(a.t13.1,(a.t14.1,(a.t15.1,(a.t16.1,(a.t17.1,((),((),((),())))))))))))))))))))),(w3 a.t18)))))
 o:=fun Z a r K=>K (.Rc []) ⟨[.fb [.fn 81 []],.fb [.bool a.2.1],.fb [.lit zb a.2.2.1,.int .i64 a.t3.1,.int .i64 a.t4.1,.int .i64 a.t5.1,.lit Na a.t6.1,.lit yb a.t7.1,.lit Na a.t8.1,.lit ja a.t9.1,.lit (.int .i64) a.t10.1,.int .i64 a.t11.1,.all 3,.int .i64 a.t12.1,.int .i64 r.1,.int .i64 r.2.1,.int .i64 r.2.2.1,.int .i64 a.t16.1,.int .i64 a.t17.1,.Wa,.all 4,.all 5],.cells (.int .i64) r.t3,.deep (.int .i64) a.t19.1,.cells (.slice (.int .i64)) a.t20],0⟩
def Yy {X:Type} (a:AO) (K:(YD)->Option X):Option X:=
 ask (V.va a.1.2.2.1 (fa a.2.2.2.2.2.2.2.2.2.2.2.2.2.2.2.2.2.2.1)) (ask (V.va a.1.2.2.2.1 (fa a.2.2.2.2.2.2.2.2.2.2.2.2.2.2.2.2.2.2.1)) (cond a.2.1
 ((Wk ((Ga ((0:Int)-(gx a.2.2.2.2.2.2.2.2.2.2.2.2.2.2.2.2.2.2.1 (ga a.1.2.2.1) (0:Int)))),3)).bind fun r1=>
 cond (!r1)
 (K (1,a.1.2.2.2.2.2.1,1,a.2.2.2.2.2.2.2.2.2.2.2.2.2.2.2.2.2.2.1))
 (ask (V.va a.1.2.1 (fa a.2.2.2.2.2.2.2.2.2.2.2.2.2.2.2.2.2.2.1)) (K (a.2.2.2.2.2.2.2.2.2.2.2.2.2.1,a.2.2.2.2.2.2.2.2.2.2.2.2.2.2.1,a.2.2.2.2.2.2.2.2.2.2.2.2.2.2.2.1,(Tb a.2.2.2.2.2.2.2.2.2.2.2.2.2.2.2.2.2.2.1 (ga a.1.2.1) (Ga ((0:Int)-(gx a.2.2.2.2.2.2.2.2.2.2.2.2.2.2.2.2.2.2.1 (ga a.1.2.2.1) (0:Int)))))))))
 (ask (V.va a.1.2.1 (fa a.2.2.2.2.2.2.2.2.2.2.2.2.2.2.2.2.2.2.1)) (K (a.2.2.2.2.2.2.2.2.2.2.2.2.2.1,a.2.2.2.2.2.2.2.2.2.2.2.2.2.2.1,a.2.2.2.2.2.2.2.2.2.2.2.2.2.2.2.1,(Tb a.2.2.2.2.2.2.2.2.2.2.2.2.2.2.2.2.2.2.1 (ga a.1.2.1) (Ga ((0:Int)-(gx a.2.2.2.2.2.2.2.2.2.2.2.2.2.2.2.2.2.2.1 (ga a.1.2.2.1) (0:Int))))))))))
def Rq:=fun a=>Yy a some
def JV:Spec:=oF.sp Rq
noncomputable def S2:Env:=⟨fun k=>[].contains k,Cb [(81,m_),(77,Cn),(78,cg)],fun X k s K=>none⟩
theorem KV:OK (2) 76 (oF.sp Rq):=
 fO (d:=1) (env:=S2) (Aa (cc n_ (cc Dn (cc fg cn)))) (fn:=Tryz.f76) (mc:=@Yy) (by intros;simp only [Rq,Yy,nn]) (za:=[5])
def nF:FS (AO) (YD) where
 sk:=⟨(.cons (.ptr 2 0) (.cons (.agg Wc) (.cons (.ptr 0 0) (.cons (.ptr 1 0) .nil)))),[.fb (.cons (.fn 82 .nil) .nil),.fb (.cons .bool .nil),.fb J8,.cells (.int .i64),.deep (.int .i64),.cells (.slice (.int .i64))],0⟩
 a:=fun u=>((q8 u.1.2.1),u.2.2.1.1,u.t3.1.1,u.t3.1.2.1,u.t3.1.2.2.1,u.t3.1.t3.1,u.t3.1.t4.1,u.t3.1.t5.1,u.t3.1.t6.1,u.t3.1.t7.1,u.t3.1.t8.1,u.t3.1.t9.1,u.t3.1.t11.1,u.t3.1.t12.1,u.t3.1.t13.1,u.t3.1.t14.1,u.t3.1.t15.1,u.t3.1.t16.1,u.t4.1,u.t5.1,u.t6.1)
 n:=fun a=>(((),((w8 a.1),((),((),())))),(((),()),((a.2.1,()),((a.2.2.1,(a.t3.1,(a.t4.1,(a.t5.1,(a.t6.1,(a.t7.1,(a.t8.1,(a.t9.1,(a.t10.1,(a.t11.1,((),(a.t12.1,(a.t13.1,(a.t14.1,(a.t15.1,(a.t16.1,(a.t17.1,((),((),((),())))))))))))))))))))),(w3 a.t18)))))
 o:=fun Z a r K=>K (.Rc []) ⟨[.fb [.fn 82 []],.fb [.bool a.2.1],.fb [.lit zb a.2.2.1,.int .i64 a.t3.1,.int .i64 a.t4.1,.int .i64 a.t5.1,.lit Na a.t6.1,.lit yb a.t7.1,.lit Na a.t8.1,.lit ja a.t9.1,.lit (.int .i64) a.t10.1,.int .i64 a.t11.1,.all 3,.int .i64 a.t12.1,.int .i64 r.1,.int .i64 r.2.1,.int .i64 r.2.2.1,.int .i64 a.t16.1,.int .i64 a.t17.1,.Wa,.all 4,.all 5],.cells (.int .i64) r.t3,.deep (.int .i64) a.t19.1,.cells (.slice (.int .i64)) a.t20],0⟩
def Xy {X:Type} (a:AO) (K:(YD)->Option X):Option X:=
 ask (V.va a.1.2.2.1 (fa a.2.2.2.2.2.2.2.2.2.2.2.2.2.2.2.2.2.2.1)) (ask (V.va a.1.2.2.2.1 (fa a.2.2.2.2.2.2.2.2.2.2.2.2.2.2.2.2.2.2.1)) (cond a.2.1
 ((Wk ((if (Ga ((0:Int)-(gx a.2.2.2.2.2.2.2.2.2.2.2.2.2.2.2.2.2.2.1 (ga a.1.2.2.1) (0:Int))))>(gx a.2.2.2.2.2.2.2.2.2.2.2.2.2.2.2.2.2.2.1 (ga a.1.2.2.1) (0:Int)) then (Ga ((0:Int)-(gx a.2.2.2.2.2.2.2.2.2.2.2.2.2.2.2.2.2.2.1 (ga a.1.2.2.1) (0:Int)))) else (gx a.2.2.2.2.2.2.2.2.2.2.2.2.2.2.2.2.2.2.1 (ga a.1.2.2.1) (0:Int))),3)).bind fun r1=>
 cond (!r1)
 (K (1,a.1.2.2.2.2.2.1,1,a.2.2.2.2.2.2.2.2.2.2.2.2.2.2.2.2.2.2.1))
 (ask (V.va a.1.2.1 (fa a.2.2.2.2.2.2.2.2.2.2.2.2.2.2.2.2.2.2.1)) (K (a.2.2.2.2.2.2.2.2.2.2.2.2.2.1,a.2.2.2.2.2.2.2.2.2.2.2.2.2.2.1,a.2.2.2.2.2.2.2.2.2.2.2.2.2.2.2.1,(Tb a.2.2.2.2.2.2.2.2.2.2.2.2.2.2.2.2.2.2.1 (ga a.1.2.1) (if (Ga ((0:Int)-(gx a.2.2.2.2.2.2.2.2.2.2.2.2.2.2.2.2.2.2.1 (ga a.1.2.2.1) (0:Int))))>(gx a.2.2.2.2.2.2.2.2.2.2.2.2.2.2.2.2.2.2.1 (ga a.1.2.2.1) (0:Int)) then (Ga ((0:Int)-(gx a.2.2.2.2.2.2.2.2.2.2.2.2.2.2.2.2.2.2.1 (ga a.1.2.2.1) (0:Int)))) else (gx a.2.2.2.2.2.2.2.2.2.2.2.2.2.2.2.2.2.2.1 (ga a.1.2.2.1) (0:Int))))))))
 (ask (V.va a.1.2.1 (fa a.2.2.2.2.2.2.2.2.2.2.2.2.2.2.2.2.2.2.1)) (K (a.2.2.2.2.2.2.2.2.2.2.2.2.2.1,a.2.2.2.2.2.2.2.2.2.2.2.2.2.2.1,a.2.2.2.2.2.2.2.2.2.2.2.2.2.2.2.1,(Tb a.2.2.2.2.2.2.2.2.2.2.2.2.2.2.2.2.2.2.1 (ga a.1.2.1) (if (Ga ((0:Int)-(gx a.2.2.2.2.2.2.2.2.2.2.2.2.2.2.2.2.2.2.1 (ga a.1.2.2.1) (0:Int))))>(gx a.2.2.2.2.2.2.2.2.2.2.2.2.2.2.2.2.2.2.1 (ga a.1.2.2.1) (0:Int)) then (Ga ((0:Int)-(gx a.2.2.2.2.2.2.2.2.2.2.2.2.2.2.2.2.2.2.1 (ga a.1.2.2.1) (0:Int)))) else (gx a.2.2.2.2.2.2.2.2.2.2.2.2.2.2.2.2.2.2.1 (ga a.1.2.2.1) (0:Int)))))))))
def Qq:=fun a=>Xy a some
def GV:Spec:=nF.sp Qq
noncomputable def R2:Env:=⟨fun k=>[].contains k,Cb [(82,k_),(77,Cn),(78,cg)],fun X k s K=>none⟩
theorem HV:OK (2) 76 (nF.sp Qq):=
 fO (d:=1) (env:=R2) (Aa (cc l_ (cc Dn (cc fg cn)))) (fn:=Tryz.f76) (mc:=@Xy) (by intros;simp only [Qq,Xy,nn]) (za:=[5])
def mF:FS (AO) (YD) where
 sk:=⟨(.cons (.ptr 2 0) (.cons (.agg Wc) (.cons (.ptr 0 0) (.cons (.ptr 1 0) .nil)))),[.fb (.cons (.fn 83 .nil) .nil),.fb (.cons .bool .nil),.fb J8,.cells (.int .i64),.deep (.int .i64),.cells (.slice (.int .i64))],0⟩
 a:=fun u=>((q8 u.1.2.1),u.2.2.1.1,u.t3.1.1,u.t3.1.2.1,u.t3.1.2.2.1,u.t3.1.t3.1,u.t3.1.t4.1,u.t3.1.t5.1,u.t3.1.t6.1,u.t3.1.t7.1,u.t3.1.t8.1,u.t3.1.t9.1,u.t3.1.t11.1,u.t3.1.t12.1,u.t3.1.t13.1,u.t3.1.t14.1,u.t3.1.t15.1,u.t3.1.t16.1,u.t4.1,u.t5.1,u.t6.1)
 n:=fun a=>(((),((w8 a.1),((),((),())))),(((),()),((a.2.1,()),((a.2.2.1,(a.t3.1,(a.t4.1,(a.t5.1,(a.t6.1,(a.t7.1,(a.t8.1,(a.t9.1,(a.t10.1,(a.t11.1,((),(a.t12.1,(a.t13.1,(a.t14.1,(a.t15.1,(a.t16.1,(a.t17.1,((),((),((),())))))))))))))))))))),(w3 a.t18)))))
 o:=fun Z a r K=>K (.Rc []) ⟨[.fb [.fn 83 []],.fb [.bool a.2.1],.fb [.lit zb a.2.2.1,.int .i64 a.t3.1,.int .i64 a.t4.1,.int .i64 a.t5.1,.lit Na a.t6.1,.lit yb a.t7.1,.lit Na a.t8.1,.lit ja a.t9.1,.lit (.int .i64) a.t10.1,.int .i64 a.t11.1,.all 3,.int .i64 a.t12.1,.int .i64 r.1,.int .i64 r.2.1,.int .i64 r.2.2.1,.int .i64 a.t16.1,.int .i64 a.t17.1,.Wa,.all 4,.all 5],.cells (.int .i64) r.t3,.deep (.int .i64) a.t19.1,.cells (.slice (.int .i64)) a.t20],0⟩
def Wy {X:Type} (a:AO) (K:(YD)->Option X):Option X:=
 ask (V.va a.1.2.2.1 (fa a.2.2.2.2.2.2.2.2.2.2.2.2.2.2.2.2.2.2.1)) (ask (V.va a.1.2.2.2.1 (fa a.2.2.2.2.2.2.2.2.2.2.2.2.2.2.2.2.2.2.1)) (cond a.2.1
 ((Wk ((Ga ((gx a.2.2.2.2.2.2.2.2.2.2.2.2.2.2.2.2.2.2.1 (ga a.1.2.2.1) (0:Int))+(gx a.2.2.2.2.2.2.2.2.2.2.2.2.2.2.2.2.2.2.1 (ga a.1.2.2.2.1) (0:Int)))),3)).bind fun r1=>
 cond (!r1)
 (K (1,a.1.2.2.2.2.2.1,1,a.2.2.2.2.2.2.2.2.2.2.2.2.2.2.2.2.2.2.1))
 (ask (V.va a.1.2.1 (fa a.2.2.2.2.2.2.2.2.2.2.2.2.2.2.2.2.2.2.1)) (K (a.2.2.2.2.2.2.2.2.2.2.2.2.2.1,a.2.2.2.2.2.2.2.2.2.2.2.2.2.2.1,a.2.2.2.2.2.2.2.2.2.2.2.2.2.2.2.1,(Tb a.2.2.2.2.2.2.2.2.2.2.2.2.2.2.2.2.2.2.1 (ga a.1.2.1) (Ga ((gx a.2.2.2.2.2.2.2.2.2.2.2.2.2.2.2.2.2.2.1 (ga a.1.2.2.1) (0:Int))+(gx a.2.2.2.2.2.2.2.2.2.2.2.2.2.2.2.2.2.2.1 (ga a.1.2.2.2.1) (0:Int)))))))))
 (ask (V.va a.1.2.1 (fa a.2.2.2.2.2.2.2.2.2.2.2.2.2.2.2.2.2.2.1)) (K (a.2.2.2.2.2.2.2.2.2.2.2.2.2.1,a.2.2.2.2.2.2.2.2.2.2.2.2.2.2.1,a.2.2.2.2.2.2.2.2.2.2.2.2.2.2.2.1,(Tb a.2.2.2.2.2.2.2.2.2.2.2.2.2.2.2.2.2.2.1 (ga a.1.2.1) (Ga ((gx a.2.2.2.2.2.2.2.2.2.2.2.2.2.2.2.2.2.2.1 (ga a.1.2.2.1) (0:Int))+(gx a.2.2.2.2.2.2.2.2.2.2.2.2.2.2.2.2.2.2.1 (ga a.1.2.2.2.1) (0:Int))))))))))
def Pq:=fun a=>Wy a some
def DV:Spec:=mF.sp Pq
noncomputable def Q2:Env:=⟨fun k=>[].contains k,Cb [(83,i_),(77,Cn),(78,cg)],fun X k s K=>none⟩
theorem EV:OK (2) 76 (mF.sp Pq):=
 fO (d:=1) (env:=Q2) (Aa (cc j_ (cc Dn (cc fg cn)))) (fn:=Tryz.f76) (mc:=@Wy) (by intros;simp only [Pq,Wy,nn]) (za:=[5])
def EA:FS (AO) (YD) where
 sk:=⟨(.cons (.ptr 2 0) (.cons (.agg Wc) (.cons (.ptr 0 0) (.cons (.ptr 1 0) .nil)))),[.fb (.cons (.fn 84 .nil) .nil),.fb (.cons .bool .nil),.fb J8,.cells (.int .i64),.deep (.int .i64),.cells (.slice (.int .i64))],0⟩
 a:=fun u=>((q8 u.1.2.1),u.2.2.1.1,u.t3.1.1,u.t3.1.2.1,u.t3.1.2.2.1,u.t3.1.t3.1,u.t3.1.t4.1,u.t3.1.t5.1,u.t3.1.t6.1,u.t3.1.t7.1,u.t3.1.t8.1,u.t3.1.t9.1,u.t3.1.t11.1,u.t3.1.t12.1,u.t3.1.t13.1,u.t3.1.t14.1,u.t3.1.t15.1,u.t3.1.t16.1,u.t4.1,u.t5.1,u.t6.1)
 n:=fun a=>(((),((w8 a.1),((),((),())))),(((),()),((a.2.1,()),((a.2.2.1,(a.t3.1,(a.t4.1,(a.t5.1,(a.t6.1,(a.t7.1,(a.t8.1,(a.t9.1,(a.t10.1,(a.t11.1,((),(a.t12.1,(a.t13.1,(a.t14.1,(a.t15.1,(a.t16.1,(a.t17.1,((),((),((),())))))))))))))))))))),(w3 a.t18)))))
 o:=fun Z a r K=>K (.Rc []) ⟨[.fb [.fn 84 []],.fb [.bool a.2.1],.fb [.lit zb a.2.2.1,.int .i64 a.t3.1,.int .i64 a.t4.1,.int .i64 a.t5.1,.lit Na a.t6.1,.lit yb a.t7.1,.lit Na a.t8.1,.lit ja a.t9.1,.lit (.int .i64) a.t10.1,.int .i64 a.t11.1,.all 3,.int .i64 a.t12.1,.int .i64 r.1,.int .i64 r.2.1,.int .i64 r.2.2.1,.int .i64 a.t16.1,.int .i64 a.t17.1,.Wa,.all 4,.all 5],.cells (.int .i64) r.t3,.deep (.int .i64) a.t19.1,.cells (.slice (.int .i64)) a.t20],0⟩
def zu {X:Type} (a:AO) (K:(YD)->Option X):Option X:=
 ask (V.va a.1.2.2.1 (fa a.2.2.2.2.2.2.2.2.2.2.2.2.2.2.2.2.2.2.1)) (ask (V.va a.1.2.2.2.1 (fa a.2.2.2.2.2.2.2.2.2.2.2.2.2.2.2.2.2.2.1)) (cond a.2.1
 ((Wk ((Ga ((gx a.2.2.2.2.2.2.2.2.2.2.2.2.2.2.2.2.2.2.1 (ga a.1.2.2.1) (0:Int))-(gx a.2.2.2.2.2.2.2.2.2.2.2.2.2.2.2.2.2.2.1 (ga a.1.2.2.2.1) (0:Int)))),3)).bind fun r1=>
 cond (!r1)
 (K (1,a.1.2.2.2.2.2.1,1,a.2.2.2.2.2.2.2.2.2.2.2.2.2.2.2.2.2.2.1))
 (ask (V.va a.1.2.1 (fa a.2.2.2.2.2.2.2.2.2.2.2.2.2.2.2.2.2.2.1)) (K (a.2.2.2.2.2.2.2.2.2.2.2.2.2.1,a.2.2.2.2.2.2.2.2.2.2.2.2.2.2.1,a.2.2.2.2.2.2.2.2.2.2.2.2.2.2.2.1,(Tb a.2.2.2.2.2.2.2.2.2.2.2.2.2.2.2.2.2.2.1 (ga a.1.2.1) (Ga ((gx a.2.2.2.2.2.2.2.2.2.2.2.2.2.2.2.2.2.2.1 (ga a.1.2.2.1) (0:Int))-(gx a.2.2.2.2.2.2.2.2.2.2.2.2.2.2.2.2.2.2.1 (ga a.1.2.2.2.1) (0:Int)))))))))
 (ask (V.va a.1.2.1 (fa a.2.2.2.2.2.2.2.2.2.2.2.2.2.2.2.2.2.2.1)) (K (a.2.2.2.2.2.2.2.2.2.2.2.2.2.1,a.2.2.2.2.2.2.2.2.2.2.2.2.2.2.1,a.2.2.2.2.2.2.2.2.2.2.2.2.2.2.2.1,(Tb a.2.2.2.2.2.2.2.2.2.2.2.2.2.2.2.2.2.2.1 (ga a.1.2.1) (Ga ((gx a.2.2.2.2.2.2.2.2.2.2.2.2.2.2.2.2.2.2.1 (ga a.1.2.2.1) (0:Int))-(gx a.2.2.2.2.2.2.2.2.2.2.2.2.2.2.2.2.2.2.1 (ga a.1.2.2.2.1) (0:Int))))))))))
def Fm:=fun a=>zu a some
def pQ:Spec:=EA.sp Fm
noncomputable def PV:Env:=⟨fun k=>[].contains k,Cb [(84,g_),(77,Cn),(78,cg)],fun X k s K=>none⟩
theorem qQ:OK (2) 76 (EA.sp Fm):=
 fO (d:=1) (env:=PV) (Aa (cc h_ (cc Dn (cc fg cn)))) (fn:=Tryz.f76) (mc:=@zu) (by intros;simp only [Fm,zu,nn]) (za:=[5])
def DA:FS (AO) (YD) where
 sk:=⟨(.cons (.ptr 2 0) (.cons (.agg Wc) (.cons (.ptr 0 0) (.cons (.ptr 1 0) .nil)))),[.fb (.cons (.fn 85 .nil) .nil),.fb (.cons .bool .nil),.fb J8,.cells (.int .i64),.deep (.int .i64),.cells (.slice (.int .i64))],0⟩
 a:=fun u=>((q8 u.1.2.1),u.2.2.1.1,u.t3.1.1,u.t3.1.2.1,u.t3.1.2.2.1,u.t3.1.t3.1,u.t3.1.t4.1,u.t3.1.t5.1,u.t3.1.t6.1,u.t3.1.t7.1,u.t3.1.t8.1,u.t3.1.t9.1,u.t3.1.t11.1,u.t3.1.t12.1,u.t3.1.t13.1,u.t3.1.t14.1,u.t3.1.t15.1,u.t3.1.t16.1,u.t4.1,u.t5.1,u.t6.1)
 n:=fun a=>(((),((w8 a.1),((),((),())))),(((),()),((a.2.1,()),((a.2.2.1,(a.t3.1,(a.t4.1,(a.t5.1,(a.t6.1,(a.t7.1,(a.t8.1,(a.t9.1,(a.t10.1,(a.t11.1,((),(a.t12.1,(a.t13.1,(a.t14.1,(a.t15.1,(a.t16.1,(a.t17.1,((),((),((),())))))))))))))))))))),(w3 a.t18)))))
 o:=fun Z a r K=>K (.Rc []) ⟨[.fb [.fn 85 []],.fb [.bool a.2.1],.fb [.lit zb a.2.2.1,.int .i64 a.t3.1,.int .i64 a.t4.1,.int .i64 a.t5.1,.lit Na a.t6.1,.lit yb a.t7.1,.lit Na a.t8.1,.lit ja a.t9.1,.lit (.int .i64) a.t10.1,.int .i64 a.t11.1,.all 3,.int .i64 a.t12.1,.int .i64 r.1,.int .i64 r.2.1,.int .i64 r.2.2.1,.int .i64 a.t16.1,.int .i64 a.t17.1,.Wa,.all 4,.all 5],.cells (.int .i64) r.t3,.deep (.int .i64) a.t19.1,.cells (.slice (.int .i64)) a.t20],0⟩
def yu {X:Type} (a:AO) (K:(YD)->Option X):Option X:=
 ask (V.va a.1.2.2.1 (fa a.2.2.2.2.2.2.2.2.2.2.2.2.2.2.2.2.2.2.1)) (ask (V.va a.1.2.2.2.1 (fa a.2.2.2.2.2.2.2.2.2.2.2.2.2.2.2.2.2.2.1)) (cond a.2.1
 ((Wk ((Ga ((gx a.2.2.2.2.2.2.2.2.2.2.2.2.2.2.2.2.2.2.1 (ga a.1.2.2.1) (0:Int)) * (gx a.2.2.2.2.2.2.2.2.2.2.2.2.2.2.2.2.2.2.1 (ga a.1.2.2.2.1) (0:Int)))),3)).bind fun r1=>
 cond (!r1)
 (K (1,a.1.2.2.2.2.2.1,1,a.2.2.2.2.2.2.2.2.2.2.2.2.2.2.2.2.2.2.1))
 (ask (V.va a.1.2.1 (fa a.2.2.2.2.2.2.2.2.2.2.2.2.2.2.2.2.2.2.1)) (K (a.2.2.2.2.2.2.2.2.2.2.2.2.2.1,a.2.2.2.2.2.2.2.2.2.2.2.2.2.2.1,a.2.2.2.2.2.2.2.2.2.2.2.2.2.2.2.1,(Tb a.2.2.2.2.2.2.2.2.2.2.2.2.2.2.2.2.2.2.1 (ga a.1.2.1) (Ga ((gx a.2.2.2.2.2.2.2.2.2.2.2.2.2.2.2.2.2.2.1 (ga a.1.2.2.1) (0:Int)) * (gx a.2.2.2.2.2.2.2.2.2.2.2.2.2.2.2.2.2.2.1 (ga a.1.2.2.2.1) (0:Int)))))))))
 (ask (V.va a.1.2.1 (fa a.2.2.2.2.2.2.2.2.2.2.2.2.2.2.2.2.2.2.1)) (K (a.2.2.2.2.2.2.2.2.2.2.2.2.2.1,a.2.2.2.2.2.2.2.2.2.2.2.2.2.2.1,a.2.2.2.2.2.2.2.2.2.2.2.2.2.2.2.1,(Tb a.2.2.2.2.2.2.2.2.2.2.2.2.2.2.2.2.2.2.1 (ga a.1.2.1) (Ga ((gx a.2.2.2.2.2.2.2.2.2.2.2.2.2.2.2.2.2.2.1 (ga a.1.2.2.1) (0:Int)) * (gx a.2.2.2.2.2.2.2.2.2.2.2.2.2.2.2.2.2.2.1 (ga a.1.2.2.2.1) (0:Int))))))))))
def Em:=fun a=>yu a some
def mQ:Spec:=DA.sp Em
noncomputable def OV:Env:=⟨fun k=>[].contains k,Cb [(85,e_),(77,Cn),(78,cg)],fun X k s K=>none⟩
theorem nQ:OK (2) 76 (DA.sp Em):=
 fO (d:=1) (env:=OV) (Aa (cc f_ (cc Dn (cc fg cn)))) (fn:=Tryz.f76) (mc:=@yu) (by intros;simp only [Em,yu,nn]) (za:=[5])
end
end Go.U
end
