/- The functions of the program as Lean functions, and that the evaluator says so. -/
import Derived.Test.YtjenflkegbmkkaaGreatDoorC4
set_option linter.unusedVariables false
set_option linter.unusedSimpArgs false
set_option linter.unusedSectionVars false
open Int renaming toNat→ga
open List renaming length→fa,set→Tb
section
set_option maxRecDepth 100000
namespace Go.U
open Go Go.Proofs
noncomputable section
variable {C:V.Callee}
def kN:FS (Tx) (YD) where
 sk:=⟨(.cons (.ptr 0 0) (.cons (.agg Wc) .nil)),[.fb DG,.cells (.int .i64),.deep (.int .i64),.cells (.slice (.int .i64))],0⟩
 a:=fun u=>((q8 u.1.2.1),u.2.1.1,u.2.1.2.1,u.2.1.2.2.1,u.2.1.t3.1,u.2.1.t4.1,u.2.1.t5.1,u.2.1.t6.1,u.2.1.t7.1,u.2.1.t8.1,u.2.1.t9.1,u.2.1.t11.1,u.2.1.t12.1,u.2.1.t13.1,u.2.1.t14.1,u.2.1.t15.1,u.2.1.t16.1,u.2.2.1,u.t3.1,u.t4.1)
 n:=fun a=>(((),((w8 a.1),())),((a.2.1,(a.2.2.1,(a.t3.1,(a.t4.1,(a.t5.1,(a.t6.1,(a.t7.1,(a.t8.1,(a.t9.1,(a.t10.1,((),(a.t11.1,(a.t12.1,(a.t13.1,(a.t14.1,(a.t15.1,(a.t16.1,((),((),((),())))))))))))))))))))),(w3 a.t17)))
 o:=fun Z a r K=>K (.Rc []) ⟨[.fb [.lit zb a.2.1,.int .i64 a.2.2.1,.int .i64 a.t3.1,.int .i64 a.t4.1,.lit Na a.t5.1,.lit yb a.t6.1,.lit Na a.t7.1,.lit ja a.t8.1,.lit (.int .i64) a.t9.1,.int .i64 a.t10.1,.all 1,.int .i64 a.t11.1,.int .i64 r.1,.int .i64 r.2.1,.int .i64 r.2.2.1,.int .i64 a.t15.1,.int .i64 a.t16.1,.Wa,.all 2,.all 3],.cells (.int .i64) r.t3,.deep (.int .i64) a.t18.1,.cells (.slice (.int .i64)) a.t19],0⟩
def vu {X:Type} (a:Tx) (K:(YD)->Option X):Option X:=
 ask (V.va a.1.2.2.1 (fa a.2.2.2.2.2.2.2.2.2.2.2.2.2.2.2.2.2.1)) (ask (V.va a.1.2.2.2.1 (fa a.2.2.2.2.2.2.2.2.2.2.2.2.2.2.2.2.2.1)) (cond (decide ((gx a.2.2.2.2.2.2.2.2.2.2.2.2.2.2.2.2.2.1 (ga a.1.2.2.2.1) (0:Int))=(0:Int)))
 (K (1,a.1.2.2.2.2.2.1,2,a.2.2.2.2.2.2.2.2.2.2.2.2.2.2.2.2.2.1))
 (cond (decide ((gx a.2.2.2.2.2.2.2.2.2.2.2.2.2.2.2.2.2.1 (ga a.1.2.2.2.1) (0:Int))=(0:Int)))
 (none)
 (cond (decide (a.1.1=(7:Int)))
 (cond (decide ((gx a.2.2.2.2.2.2.2.2.2.2.2.2.2.2.2.2.2.1 (ga a.1.2.2.1) (0:Int))=(-2147483648:Int)))
 (cond (decide ((gx a.2.2.2.2.2.2.2.2.2.2.2.2.2.2.2.2.2.1 (ga a.1.2.2.2.1) (0:Int))=(-1:Int)))
 (K (1,a.1.2.2.2.2.2.1,3,a.2.2.2.2.2.2.2.2.2.2.2.2.2.2.2.2.2.1))
 (cond (decide ((gx a.2.2.2.2.2.2.2.2.2.2.2.2.2.2.2.2.2.1 (ga a.1.2.2.2.1) (0:Int))=(0:Int)))
 (none)
 (ask (V.va a.1.2.1 (fa a.2.2.2.2.2.2.2.2.2.2.2.2.2.2.2.2.2.1)) (K (a.2.2.2.2.2.2.2.2.2.2.2.2.1,a.2.2.2.2.2.2.2.2.2.2.2.2.2.1,a.2.2.2.2.2.2.2.2.2.2.2.2.2.2.1,(Tb a.2.2.2.2.2.2.2.2.2.2.2.2.2.2.2.2.2.1 (ga a.1.2.1) (Ga (Int.tdiv (gx a.2.2.2.2.2.2.2.2.2.2.2.2.2.2.2.2.2.1 (ga a.1.2.2.1) (0:Int)) (gx a.2.2.2.2.2.2.2.2.2.2.2.2.2.2.2.2.2.1 (ga a.1.2.2.2.1) (0:Int))))))))))
 (cond (decide ((gx a.2.2.2.2.2.2.2.2.2.2.2.2.2.2.2.2.2.1 (ga a.1.2.2.2.1) (0:Int))=(0:Int)))
 (none)
 (ask (V.va a.1.2.1 (fa a.2.2.2.2.2.2.2.2.2.2.2.2.2.2.2.2.2.1)) (K (a.2.2.2.2.2.2.2.2.2.2.2.2.1,a.2.2.2.2.2.2.2.2.2.2.2.2.2.1,a.2.2.2.2.2.2.2.2.2.2.2.2.2.2.1,(Tb a.2.2.2.2.2.2.2.2.2.2.2.2.2.2.2.2.2.1 (ga a.1.2.1) (Ga (Int.tdiv (gx a.2.2.2.2.2.2.2.2.2.2.2.2.2.2.2.2.2.1 (ga a.1.2.2.1) (0:Int)) (gx a.2.2.2.2.2.2.2.2.2.2.2.2.2.2.2.2.2.1 (ga a.1.2.2.2.1) (0:Int))))))))))
 (cond (decide (a.1.1=(8:Int)))
 (ask (V.va a.1.2.1 (fa a.2.2.2.2.2.2.2.2.2.2.2.2.2.2.2.2.2.1)) (K (a.2.2.2.2.2.2.2.2.2.2.2.2.1,a.2.2.2.2.2.2.2.2.2.2.2.2.2.1,a.2.2.2.2.2.2.2.2.2.2.2.2.2.2.1,(Tb a.2.2.2.2.2.2.2.2.2.2.2.2.2.2.2.2.2.1 (ga a.1.2.1) (Int.tmod (gx a.2.2.2.2.2.2.2.2.2.2.2.2.2.2.2.2.2.1 (ga a.1.2.2.1) (0:Int)) (gx a.2.2.2.2.2.2.2.2.2.2.2.2.2.2.2.2.2.1 (ga a.1.2.2.2.1) (0:Int)))))))
 (K (a.2.2.2.2.2.2.2.2.2.2.2.2.1,a.2.2.2.2.2.2.2.2.2.2.2.2.2.1,a.2.2.2.2.2.2.2.2.2.2.2.2.2.2.1,a.2.2.2.2.2.2.2.2.2.2.2.2.2.2.2.2.2.1)))))))
def Uj:=fun a=>vu a some
def kV:Spec:=kN.sp Uj
noncomputable def L2:Env:=⟨fun k=>[].contains k,Cb [(78,cg)],fun X k s K=>none⟩
theorem lV:OK (2) 86 (kN.sp Uj):=
 fO (d:=1) (env:=L2) (Aa (cc fg cn)) (fn:=Tryz.f86) (mc:=@vu) (by intros;simp only [Uj,vu,nn]) (za:=[3])
def CA:FS (AO) (YD) where
 sk:=⟨(.cons (.ptr 2 0) (.cons (.agg Wc) (.cons (.ptr 0 0) (.cons (.ptr 1 0) .nil)))),[.fb (.cons (.fn 87 .nil) .nil),.fb (.cons .bool .nil),.fb J8,.cells (.int .i64),.deep (.int .i64),.cells (.slice (.int .i64))],0⟩
 a:=fun u=>((q8 u.1.2.1),u.2.2.1.1,u.t3.1.1,u.t3.1.2.1,u.t3.1.2.2.1,u.t3.1.t3.1,u.t3.1.t4.1,u.t3.1.t5.1,u.t3.1.t6.1,u.t3.1.t7.1,u.t3.1.t8.1,u.t3.1.t9.1,u.t3.1.t11.1,u.t3.1.t12.1,u.t3.1.t13.1,u.t3.1.t14.1,u.t3.1.t15.1,u.t3.1.t16.1,u.t4.1,u.t5.1,u.t6.1)
 n:=fun a=>(((),((w8 a.1),((),((),())))),(((),()),((a.2.1,()),((a.2.2.1,(a.t3.1,(a.t4.1,(a.t5.1,(a.t6.1,(a.t7.1,(a.t8.1,(a.t9.1,(a.t10.1,(a.t11.1,((),(a.t12.1,(a.t13.1,(a.t14.1,(a.t15.1,(a.t16.1,(a.t17.1,((),((),((),())))))))))))))))))))),(w3 a.t18)))))
 o:=fun Z a r K=>K (.Rc []) ⟨[.fb [.fn 87 []],.fb [.bool a.2.1],.fb [.lit zb a.2.2.1,.int .i64 a.t3.1,.int .i64 a.t4.1,.int .i64 a.t5.1,.lit Na a.t6.1,.lit yb a.t7.1,.lit Na a.t8.1,.lit ja a.t9.1,.lit (.int .i64) a.t10.1,.int .i64 a.t11.1,.all 3,.int .i64 a.t12.1,.int .i64 r.1,.int .i64 r.2.1,.int .i64 r.2.2.1,.int .i64 a.t16.1,.int .i64 a.t17.1,.Wa,.all 4,.all 5],.cells (.int .i64) r.t3,.deep (.int .i64) a.t19.1,.cells (.slice (.int .i64)) a.t20],0⟩
def xu {X:Type} (a:AO) (K:(YD)->Option X):Option X:=
 ask (V.va a.1.2.2.1 (fa a.2.2.2.2.2.2.2.2.2.2.2.2.2.2.2.2.2.2.1)) (ask (V.va a.1.2.2.2.1 (fa a.2.2.2.2.2.2.2.2.2.2.2.2.2.2.2.2.2.2.1)) (cond a.2.1
 ((Wk ((if (gx a.2.2.2.2.2.2.2.2.2.2.2.2.2.2.2.2.2.2.1 (ga a.1.2.2.2.1) (0:Int))<(gx a.2.2.2.2.2.2.2.2.2.2.2.2.2.2.2.2.2.2.1 (ga a.1.2.2.1) (0:Int)) then (gx a.2.2.2.2.2.2.2.2.2.2.2.2.2.2.2.2.2.2.1 (ga a.1.2.2.2.1) (0:Int)) else (gx a.2.2.2.2.2.2.2.2.2.2.2.2.2.2.2.2.2.2.1 (ga a.1.2.2.1) (0:Int))),3)).bind fun r1=>
 cond (!r1)
 (K (1,a.1.2.2.2.2.2.1,1,a.2.2.2.2.2.2.2.2.2.2.2.2.2.2.2.2.2.2.1))
 (ask (V.va a.1.2.1 (fa a.2.2.2.2.2.2.2.2.2.2.2.2.2.2.2.2.2.2.1)) (K (a.2.2.2.2.2.2.2.2.2.2.2.2.2.1,a.2.2.2.2.2.2.2.2.2.2.2.2.2.2.1,a.2.2.2.2.2.2.2.2.2.2.2.2.2.2.2.1,(Tb a.2.2.2.2.2.2.2.2.2.2.2.2.2.2.2.2.2.2.1 (ga a.1.2.1) (if (gx a.2.2.2.2.2.2.2.2.2.2.2.2.2.2.2.2.2.2.1 (ga a.1.2.2.2.1) (0:Int))<(gx a.2.2.2.2.2.2.2.2.2.2.2.2.2.2.2.2.2.2.1 (ga a.1.2.2.1) (0:Int)) then (gx a.2.2.2.2.2.2.2.2.2.2.2.2.2.2.2.2.2.2.1 (ga a.1.2.2.2.1) (0:Int)) else (gx a.2.2.2.2.2.2.2.2.2.2.2.2.2.2.2.2.2.2.1 (ga a.1.2.2.1) (0:Int))))))))
 (ask (V.va a.1.2.1 (fa a.2.2.2.2.2.2.2.2.2.2.2.2.2.2.2.2.2.2.1)) (K (a.2.2.2.2.2.2.2.2.2.2.2.2.2.1,a.2.2.2.2.2.2.2.2.2.2.2.2.2.2.1,a.2.2.2.2.2.2.2.2.2.2.2.2.2.2.2.1,(Tb a.2.2.2.2.2.2.2.2.2.2.2.2.2.2.2.2.2.2.1 (ga a.1.2.1) (if (gx a.2.2.2.2.2.2.2.2.2.2.2.2.2.2.2.2.2.2.1 (ga a.1.2.2.2.1) (0:Int))<(gx a.2.2.2.2.2.2.2.2.2.2.2.2.2.2.2.2.2.2.1 (ga a.1.2.2.1) (0:Int)) then (gx a.2.2.2.2.2.2.2.2.2.2.2.2.2.2.2.2.2.2.1 (ga a.1.2.2.2.1) (0:Int)) else (gx a.2.2.2.2.2.2.2.2.2.2.2.2.2.2.2.2.2.2.1 (ga a.1.2.2.1) (0:Int)))))))))
def Dm:=fun a=>xu a some
def jQ:Spec:=CA.sp Dm
noncomputable def NV:Env:=⟨fun k=>[].contains k,Cb [(87,c_),(77,Cn),(78,cg)],fun X k s K=>none⟩
theorem kQ:OK (2) 76 (CA.sp Dm):=
 fO (d:=1) (env:=NV) (Aa (cc d_ (cc Dn (cc fg cn)))) (fn:=Tryz.f76) (mc:=@xu) (by intros;simp only [Dm,xu,nn]) (za:=[5])
def bI:FS (AO) (YD) where
 sk:=⟨(.cons (.ptr 2 0) (.cons (.agg Wc) (.cons (.ptr 0 0) (.cons (.ptr 1 0) .nil)))),[.fb (.cons (.fn 88 .nil) .nil),.fb (.cons .bool .nil),.fb J8,.cells (.int .i64),.deep (.int .i64),.cells (.slice (.int .i64))],0⟩
 a:=fun u=>((q8 u.1.2.1),u.2.2.1.1,u.t3.1.1,u.t3.1.2.1,u.t3.1.2.2.1,u.t3.1.t3.1,u.t3.1.t4.1,u.t3.1.t5.1,u.t3.1.t6.1,u.t3.1.t7.1,u.t3.1.t8.1,u.t3.1.t9.1,u.t3.1.t11.1,u.t3.1.t12.1,u.t3.1.t13.1,u.t3.1.t14.1,u.t3.1.t15.1,u.t3.1.t16.1,u.t4.1,u.t5.1,u.t6.1)
 n:=fun a=>(((),((w8 a.1),((),((),())))),(((),()),((a.2.1,()),((a.2.2.1,(a.t3.1,(a.t4.1,(a.t5.1,(a.t6.1,(a.t7.1,(a.t8.1,(a.t9.1,(a.t10.1,(a.t11.1,((),(a.t12.1,(a.t13.1,(a.t14.1,(a.t15.1,(a.t16.1,(a.t17.1,((),((),((),())))))))))))))))))))),(w3 a.t18)))))
 o:=fun Z a r K=>K (.Rc []) ⟨[.fb [.fn 88 []],.fb [.bool a.2.1],.fb [.lit zb a.2.2.1,.int .i64 a.t3.1,.int .i64 a.t4.1,.int .i64 a.t5.1,.lit Na a.t6.1,.lit yb a.t7.1,.lit Na a.t8.1,.lit ja a.t9.1,.lit (.int .i64) a.t10.1,.int .i64 a.t11.1,.all 3,.int .i64 a.t12.1,.int .i64 r.1,.int .i64 r.2.1,.int .i64 r.2.2.1,.int .i64 a.t16.1,.int .i64 a.t17.1,.Wa,.all 4,.all 5],.cells (.int .i64) r.t3,.deep (.int .i64) a.t19.1,.cells (.slice (.int .i64)) a.t20],0⟩
def wu {X:Type} (a:AO) (K:(YD)->Option X):Option X:=
 ask (V.va a.1.2.2.1 (fa a.2.2.2.2.2.2.2.2.2.2.2.2.2.2.2.2.2.2.1)) (ask (V.va a.1.2.2.2.1 (fa a.2.2.2.2.2.2.2.2.2.2.2.2.2.2.2.2.2.2.1)) (cond a.2.1
 ((Wk ((if (gx a.2.2.2.2.2.2.2.2.2.2.2.2.2.2.2.2.2.2.1 (ga a.1.2.2.2.1) (0:Int))>(gx a.2.2.2.2.2.2.2.2.2.2.2.2.2.2.2.2.2.2.1 (ga a.1.2.2.1) (0:Int)) then (gx a.2.2.2.2.2.2.2.2.2.2.2.2.2.2.2.2.2.2.1 (ga a.1.2.2.2.1) (0:Int)) else (gx a.2.2.2.2.2.2.2.2.2.2.2.2.2.2.2.2.2.2.1 (ga a.1.2.2.1) (0:Int))),3)).bind fun r1=>
 cond (!r1)
 (K (1,a.1.2.2.2.2.2.1,1,a.2.2.2.2.2.2.2.2.2.2.2.2.2.2.2.2.2.2.1))
 (ask (V.va a.1.2.1 (fa a.2.2.2.2.2.2.2.2.2.2.2.2.2.2.2.2.2.2.1)) (K (a.2.2.2.2.2.2.2.2.2.2.2.2.2.1,a.2.2.2.2.2.2.2.2.2.2.2.2.2.2.1,a.2.2.2.2.2.2.2.2.2.2.2.2.2.2.2.1,(Tb a.2.2.2.2.2.2.2.2.2.2.2.2.2.2.2.2.2.2.1 (ga a.1.2.1) (if (gx a.2.2.2.2.2.2.2.2.2.2.2.2.2.2.2.2.2.2.1 (ga a.1.2.2.2.1) (0:Int))>(gx a.2.2.2.2.2.2.2.2.2.2.2.2.2.2.2.2.2.2.1 (ga a.1.2.2.1) (0:Int)) then (gx a.2.2.2.2.2.2.2.2.2.2.2.2.2.2.2.2.2.2.1 (ga a.1.2.2.2.1) (0:Int)) else (gx a.2.2.2.2.2.2.2.2.2.2.2.2.2.2.2.2.2.2.1 (ga a.1.2.2.1) (0:Int))))))))
 (ask (V.va a.1.2.1 (fa a.2.2.2.2.2.2.2.2.2.2.2.2.2.2.2.2.2.2.1)) (K (a.2.2.2.2.2.2.2.2.2.2.2.2.2.1,a.2.2.2.2.2.2.2.2.2.2.2.2.2.2.1,a.2.2.2.2.2.2.2.2.2.2.2.2.2.2.2.1,(Tb a.2.2.2.2.2.2.2.2.2.2.2.2.2.2.2.2.2.2.1 (ga a.1.2.1) (if (gx a.2.2.2.2.2.2.2.2.2.2.2.2.2.2.2.2.2.2.1 (ga a.1.2.2.2.1) (0:Int))>(gx a.2.2.2.2.2.2.2.2.2.2.2.2.2.2.2.2.2.2.1 (ga a.1.2.2.1) (0:Int)) then (gx a.2.2.2.2.2.2.2.2.2.2.2.2.2.2.2.2.2.2.1 (ga a.1.2.2.2.1) (0:Int)) else (gx a.2.2.2.2.2.2.2.2.2.2.2.2.2.2.2.2.2.2.1 (ga a.1.2.2.1) (0:Int)))))))))
def Cm:=fun a=>wu a some
def fQ:Spec:=bI.sp Cm
noncomputable def MV:Env:=⟨fun k=>[].contains k,Cb [(88,a_),(77,Cn),(78,cg)],fun X k s K=>none⟩
theorem gQ:OK (2) 76 (bI.sp Cm):=
 fO (d:=1) (env:=MV) (Aa (cc b_ (cc Dn (cc fg cn)))) (fn:=Tryz.f76) (mc:=@wu) (by intros;simp only [Cm,wu,nn]) (za:=[5])
def KI:FS (Tx) ((Unit) ⊕ (Nat×Nat)) where
 sk:=⟨(.cons (.ptr 0 0) (.cons (.agg Wc) .nil)),[.fb DG,.cells (.int .i64),.deep (.int .i64),.cells (.slice (.int .i64))],0⟩
 a:=fun u=>((q8 u.1.2.1),u.2.1.1,u.2.1.2.1,u.2.1.2.2.1,u.2.1.t3.1,u.2.1.t4.1,u.2.1.t5.1,u.2.1.t6.1,u.2.1.t7.1,u.2.1.t8.1,u.2.1.t9.1,u.2.1.t11.1,u.2.1.t12.1,u.2.1.t13.1,u.2.1.t14.1,u.2.1.t15.1,u.2.1.t16.1,u.2.2.1,u.t3.1,u.t4.1)
 n:=fun a=>(((),((w8 a.1),())),((a.2.1,(a.2.2.1,(a.t3.1,(a.t4.1,(a.t5.1,(a.t6.1,(a.t7.1,(a.t8.1,(a.t9.1,(a.t10.1,((),(a.t11.1,(a.t12.1,(a.t13.1,(a.t14.1,(a.t15.1,(a.t16.1,((),((),((),())))))))))))))))))))),(w3 a.t17)))
 o:=fun Z a r K=>Sum.elim (fun e=>K (.Rc [.De,.bool false]) ⟨[.fb [.lit zb a.2.1,.int .i64 a.2.2.1,.int .i64 a.t3.1,.int .i64 a.t4.1,.lit Na a.t5.1,.lit yb a.t6.1,.lit Na a.t7.1,.lit ja a.t8.1,.lit (.int .i64) a.t9.1,.int .i64 a.t10.1,.all 1,.int .i64 a.t11.1,.int .i64 1,.int .i64 a.1.t5.1,.int .i64 4,.int .i64 a.t15.1,.int .i64 a.t16.1,.Wa,.all 2,.all 3],.cells (.int .i64) a.t17.1,.deep (.int .i64) a.t18.1,.cells (.slice (.int .i64)) a.t19],0⟩) (fun e=>K (.Rc [.Ao 2 e.1 e.2 0,.bool true]) ⟨[.fb [.lit zb a.2.1,.int .i64 a.2.2.1,.int .i64 a.t3.1,.int .i64 a.t4.1,.lit Na a.t5.1,.lit yb a.t6.1,.lit Na a.t7.1,.lit ja a.t8.1,.lit (.int .i64) a.t9.1,.int .i64 a.t10.1,.all 1,.int .i64 a.t11.1,.int .i64 a.t12.1,.int .i64 a.t13.1,.int .i64 a.t14.1,.int .i64 a.t15.1,.int .i64 a.t16.1,.Wa,.all 2,.all 3],.cells (.int .i64) a.t17.1,.deep (.int .i64) a.t18.1,.cells (.slice (.int .i64)) a.t19],0⟩) r
def Ku {X:Type} (a:Tx) (K:(Unit) ⊕ (Nat×Nat)->Option X):Option X:=
 ask (V.va a.1.2.2.2.1 (fa a.2.2.2.2.2.2.2.2.2.2.2.2.2.2.2.2.2.1)) (cond (decide ((gx a.2.2.2.2.2.2.2.2.2.2.2.2.2.2.2.2.2.1 (ga a.1.2.2.2.1) (0:Int))<(0:Int)))
 (K (.inl ()))
 (ask (V.va a.1.2.2.1 (fa a.2.2.2.2.2.2.2.1)) (cond (decide ((gx a.2.2.2.2.2.2.2.1 (ga a.1.2.2.1) Bb).2.2.1<=(gx a.2.2.2.2.2.2.2.2.2.2.2.2.2.2.2.2.2.1 (ga a.1.2.2.2.1) (0:Int))))
 (K (.inl ()))
 (ask (V.va a.1.2.2.1 (fa a.2.2.2.2.2.2.2.2.2.2.2.2.2.2.2.2.2.2.1)) (ask (V.va (gx a.2.2.2.2.2.2.2.2.2.2.2.2.2.2.2.2.2.1 (ga a.1.2.2.2.1) (0:Int)) (fa (gx a.2.2.2.2.2.2.2.2.2.2.2.2.2.2.2.2.2.2.1 (ga a.1.2.2.1) []))) (K (.inr (((ga a.1.2.2.1),(ga (gx a.2.2.2.2.2.2.2.2.2.2.2.2.2.2.2.2.2.1 (ga a.1.2.2.2.1) (0:Int))))))))))))
def Dk:=fun a=>Ku a some
def ED:Spec:=KI.sp Dk
noncomputable def jY:Env:=⟨fun k=>[].contains k,Cb [(78,cg)],fun X k s K=>none⟩
theorem FD:OK (2) 124 (KI.sp Dk):=
 fO (d:=1) (env:=jY) (Aa (cc fg cn)) (fn:=Tryz.f124) (mc:=@Ku) (by intros;simp only [Dk,Ku,nn]) (za:=[3])
def jN:FS (Tx) (YD) where
 sk:=⟨(.cons (.ptr 0 0) (.cons (.agg Wc) .nil)),[.fb DG,.cells (.int .i64),.deep (.int .i64),.cells (.slice (.int .i64))],0⟩
 a:=fun u=>((q8 u.1.2.1),u.2.1.1,u.2.1.2.1,u.2.1.2.2.1,u.2.1.t3.1,u.2.1.t4.1,u.2.1.t5.1,u.2.1.t6.1,u.2.1.t7.1,u.2.1.t8.1,u.2.1.t9.1,u.2.1.t11.1,u.2.1.t12.1,u.2.1.t13.1,u.2.1.t14.1,u.2.1.t15.1,u.2.1.t16.1,u.2.2.1,u.t3.1,u.t4.1)
 n:=fun a=>(((),((w8 a.1),())),((a.2.1,(a.2.2.1,(a.t3.1,(a.t4.1,(a.t5.1,(a.t6.1,(a.t7.1,(a.t8.1,(a.t9.1,(a.t10.1,((),(a.t11.1,(a.t12.1,(a.t13.1,(a.t14.1,(a.t15.1,(a.t16.1,((),((),((),())))))))))))))))))))),(w3 a.t17)))
 o:=fun Z a r K=>K (.Rc []) ⟨[.fb [.lit zb a.2.1,.int .i64 a.2.2.1,.int .i64 a.t3.1,.int .i64 a.t4.1,.lit Na a.t5.1,.lit yb a.t6.1,.lit Na a.t7.1,.lit ja a.t8.1,.lit (.int .i64) a.t9.1,.int .i64 a.t10.1,.all 1,.int .i64 a.t11.1,.int .i64 r.1,.int .i64 r.2.1,.int .i64 r.2.2.1,.int .i64 a.t15.1,.int .i64 a.t16.1,.Wa,.all 2,.all 3],.cells (.int .i64) r.t3,.deep (.int .i64) a.t18.1,.cells (.slice (.int .i64)) a.t19],0⟩
def Uy {X:Type} (a:Tx) (K:(YD)->Option X):Option X:=
 (Dk (a.1,a.2.1,a.2.2.1,a.2.2.2.1,a.2.2.2.2.1,a.2.2.2.2.2.1,a.2.2.2.2.2.2.1,a.2.2.2.2.2.2.2.1,a.2.2.2.2.2.2.2.2.1,a.2.2.2.2.2.2.2.2.2.1,a.2.2.2.2.2.2.2.2.2.2.1,a.2.2.2.2.2.2.2.2.2.2.2.1,a.2.2.2.2.2.2.2.2.2.2.2.2.1,a.2.2.2.2.2.2.2.2.2.2.2.2.2.1,a.2.2.2.2.2.2.2.2.2.2.2.2.2.2.1,a.2.2.2.2.2.2.2.2.2.2.2.2.2.2.2.1,a.2.2.2.2.2.2.2.2.2.2.2.2.2.2.2.2.1,a.2.2.2.2.2.2.2.2.2.2.2.2.2.2.2.2.2.1,a.2.2.2.2.2.2.2.2.2.2.2.2.2.2.2.2.2.2.1,a.2.2.2.2.2.2.2.2.2.2.2.2.2.2.2.2.2.2.2)).bind fun r1=>
 Sum.elim (fun r2=>K (1,a.1.2.2.2.2.2.1,4,a.2.2.2.2.2.2.2.2.2.2.2.2.2.2.2.2.2.1))
 (fun r3=>ask (V.va a.1.2.1 (fa a.2.2.2.2.2.2.2.2.2.2.2.2.2.2.2.2.2.1)) (K (a.2.2.2.2.2.2.2.2.2.2.2.2.1,a.2.2.2.2.2.2.2.2.2.2.2.2.2.1,a.2.2.2.2.2.2.2.2.2.2.2.2.2.2.1,(Tb a.2.2.2.2.2.2.2.2.2.2.2.2.2.2.2.2.2.1 (ga a.1.2.1) (gx (gx a.2.2.2.2.2.2.2.2.2.2.2.2.2.2.2.2.2.2.1 r3.1 []) r3.2 (0:Int)))))) r1
def Nq:=fun a=>Uy a some
def bV:Spec:=jN.sp Nq
noncomputable def K2:Env:=⟨fun k=>[].contains k,Cb [(124,ED)],fun X k s K=>none⟩
theorem cV:OK (3) 89 (jN.sp Nq):=
 fO (d:=2) (env:=K2) (Aa (cc FD cn)) (fn:=Tryz.f89) (mc:=@Uy) (by intros;simp only [Nq,Uy,nn]) (za:=[3])
def JI:FS (Y21) (Unit) where
 sk:=⟨(.cons (.ptr 0 0) (.cons (.int .i64) .nil)),[.fb DG,.cells (.int .i64),.deep (.int .i64),.cells (.slice (.int .i64))],0⟩
 a:=fun u=>(u.1.2.1,u.2.1.1,u.2.1.2.1,u.2.1.2.2.1,u.2.1.t3.1,u.2.1.t4.1,u.2.1.t5.1,u.2.1.t6.1,u.2.1.t7.1,u.2.1.t8.1,u.2.1.t9.1,u.2.1.t11.1,u.2.1.t12.1,u.2.1.t13.1,u.2.1.t14.1,u.2.1.t15.1,u.2.1.t16.1,u.2.2.1,u.t3.1,u.t4.1)
 n:=fun a=>(((),(a.1,())),((a.2.1,(a.2.2.1,(a.t3.1,(a.t4.1,(a.t5.1,(a.t6.1,(a.t7.1,(a.t8.1,(a.t9.1,(a.t10.1,((),(a.t11.1,(a.t12.1,(a.t13.1,(a.t14.1,(a.t15.1,(a.t16.1,((),((),((),())))))))))))))))))))),(w3 a.t17)))
 o:=fun Z a r K=>K (.Rc []) ⟨[.fb [.lit zb a.2.1,.int .i64 a.2.2.1,.int .i64 a.t3.1,.int .i64 a.t4.1,.lit Na a.t5.1,.lit yb a.t6.1,.lit Na a.t7.1,.lit ja a.t8.1,.lit (.int .i64) a.t9.1,.int .i64 a.t10.1,.all 1,.int .i64 a.t11.1,.int .i64 a.1,.int .i64 a.t13.1,.int .i64 a.t14.1,.int .i64 a.t15.1,.int .i64 a.t16.1,.Wa,.all 2,.all 3],.cells (.int .i64) a.t17.1,.deep (.int .i64) a.t18.1,.cells (.slice (.int .i64)) a.t19],0⟩
def TA {X:Type} (a:Y21) (K:Unit->Option X):Option X:=
 K ()
def SA:=fun a=>TA a some
def Dw:Spec:=JI.sp SA
noncomputable def iY:Env:=⟨fun k=>[].contains k,Cb [],fun X k s K=>none⟩
theorem Ew:OK (1) 125 (JI.sp SA):=
 fO (d:=0) (env:=iY) (Aa cn) (fn:=Tryz.f125) (mc:=@TA) (by intros;simp only [SA,TA,nn])
def iN:FS (Tx) (Y14) where
 sk:=⟨(.cons (.ptr 0 0) (.cons (.agg Wc) .nil)),[.fb DG,.cells (.int .i64),.deep (.int .i64),.cells (.slice (.int .i64))],0⟩
 a:=fun u=>((q8 u.1.2.1),u.2.1.1,u.2.1.2.1,u.2.1.2.2.1,u.2.1.t3.1,u.2.1.t4.1,u.2.1.t5.1,u.2.1.t6.1,u.2.1.t7.1,u.2.1.t8.1,u.2.1.t9.1,u.2.1.t11.1,u.2.1.t12.1,u.2.1.t13.1,u.2.1.t14.1,u.2.1.t15.1,u.2.1.t16.1,u.2.2.1,u.t3.1,u.t4.1)
 n:=fun a=>(((),((w8 a.1),())),((a.2.1,(a.2.2.1,(a.t3.1,(a.t4.1,(a.t5.1,(a.t6.1,(a.t7.1,(a.t8.1,(a.t9.1,(a.t10.1,((),(a.t11.1,(a.t12.1,(a.t13.1,(a.t14.1,(a.t15.1,(a.t16.1,((),((),((),())))))))))))))))))))),(w3 a.t17)))
 o:=fun Z a r K=>K (.Rc []) ⟨[.fb [.lit zb a.2.1,.int .i64 a.2.2.1,.int .i64 a.t3.1,.int .i64 a.t4.1,.lit Na a.t5.1,.lit yb a.t6.1,.lit Na a.t7.1,.lit ja a.t8.1,.lit (.int .i64) a.t9.1,.int .i64 a.t10.1,.all 1,.int .i64 a.t11.1,.int .i64 r.1,.int .i64 a.t13.1,.int .i64 a.t14.1,.int .i64 a.t15.1,.int .i64 r.2.1,.Wa,.all 2,.all 3],.cells (.int .i64) r.2.2,.deep (.int .i64) a.t18.1,.cells (.slice (.int .i64)) a.t19],0⟩
def Ty {X:Type} (a:Tx) (K:(Y14)->Option X):Option X:=
 cond (decide (a.2.2.2.2.2.2.2.2.2.2.2.2.2.2.2.2.1=(nt (fa a.2.2.2.2.2.2.2.2.2.1))))
 (K (2,a.2.2.2.2.2.2.2.2.2.2.2.2.2.2.2.2.1,a.2.2.2.2.2.2.2.2.2.2.2.2.2.2.2.2.2.1))
 (ask (V.va a.2.2.2.2.2.2.2.2.2.2.2.2.2.2.2.2.1 (fa a.2.2.2.2.2.2.2.2.2.1)) (ask (V.va a.1.2.2.1 (fa a.2.2.2.2.2.1)) (cond (decide ((gx a.2.2.2.2.2.2.2.2.2.1 (ga a.2.2.2.2.2.2.2.2.2.2.2.2.2.2.2.2.1) (0:Int))<(gx a.2.2.2.2.2.1 (ga a.1.2.2.1) Bb).2.2.1))
 (K (5,(Ga (a.2.2.2.2.2.2.2.2.2.2.2.2.2.2.2.2.1+(1:Int))),a.2.2.2.2.2.2.2.2.2.2.2.2.2.2.2.2.2.1))
 (cond (decide ((gx a.2.2.2.2.2.1 (ga a.1.2.2.1) Bb).2.2.2<(gx a.2.2.2.2.2.2.2.2.2.1 (ga a.2.2.2.2.2.2.2.2.2.2.2.2.2.2.2.2.1) (0:Int))))
 (K (5,(Ga (a.2.2.2.2.2.2.2.2.2.2.2.2.2.2.2.2.1+(1:Int))),a.2.2.2.2.2.2.2.2.2.2.2.2.2.2.2.2.2.1))
 (ask (V.va a.1.2.1 (fa a.2.2.2.2.2.2.2.2.2.2.2.2.2.2.2.2.2.1)) (K (a.2.2.2.2.2.2.2.2.2.2.2.2.1,(Ga (a.2.2.2.2.2.2.2.2.2.2.2.2.2.2.2.2.1+(1:Int))),(Tb a.2.2.2.2.2.2.2.2.2.2.2.2.2.2.2.2.2.1 (ga a.1.2.1) (gx a.2.2.2.2.2.2.2.2.2.1 (ga a.2.2.2.2.2.2.2.2.2.2.2.2.2.2.2.2.1) (0:Int))))))))))
def Mq:=fun a=>Ty a some
def QU:Spec:=iN.sp Mq
noncomputable def C2:Env:=⟨fun k=>[].contains k,Cb [(125,Dw)],fun X k s K=>none⟩
theorem RU:OK (2) 90 (iN.sp Mq):=
 fO (d:=1) (env:=C2) (Aa (cc Ew cn)) (fn:=Tryz.f90) (mc:=@Ty) (by intros;simp only [Mq,Ty,nn]) (za:=[3,5])
def gN:FS (Tx) (YD) where
 sk:=⟨(.cons (.ptr 0 0) (.cons (.agg Wc) .nil)),[.fb DG,.cells (.int .i64),.deep (.int .i64),.cells (.slice (.int .i64))],0⟩
 a:=fun u=>((q8 u.1.2.1),u.2.1.1,u.2.1.2.1,u.2.1.2.2.1,u.2.1.t3.1,u.2.1.t4.1,u.2.1.t5.1,u.2.1.t6.1,u.2.1.t7.1,u.2.1.t8.1,u.2.1.t9.1,u.2.1.t11.1,u.2.1.t12.1,u.2.1.t13.1,u.2.1.t14.1,u.2.1.t15.1,u.2.1.t16.1,u.2.2.1,u.t3.1,u.t4.1)
 n:=fun a=>(((),((w8 a.1),())),((a.2.1,(a.2.2.1,(a.t3.1,(a.t4.1,(a.t5.1,(a.t6.1,(a.t7.1,(a.t8.1,(a.t9.1,(a.t10.1,((),(a.t11.1,(a.t12.1,(a.t13.1,(a.t14.1,(a.t15.1,(a.t16.1,((),((),((),())))))))))))))))))))),(w3 a.t17)))
 o:=fun Z a r K=>K (.Rc []) ⟨[.fb [.lit zb a.2.1,.int .i64 a.2.2.1,.int .i64 a.t3.1,.int .i64 a.t4.1,.lit Na a.t5.1,.lit yb a.t6.1,.lit Na a.t7.1,.lit ja a.t8.1,.lit (.int .i64) a.t9.1,.int .i64 a.t10.1,.all 1,.int .i64 a.t11.1,.int .i64 r.1,.int .i64 r.2.1,.int .i64 r.2.2.1,.int .i64 a.t15.1,.int .i64 a.t16.1,.Wa,.all 2,.all 3],.cells (.int .i64) r.t3,.deep (.int .i64) a.t18.1,.cells (.slice (.int .i64)) a.t19],0⟩
def Sy {X:Type} (a:Tx) (K:(YD)->Option X):Option X:=
 ask (V.va a.1.2.2.1 (fa a.2.2.2.2.2.2.2.2.2.2.2.2.2.2.2.2.2.1)) (ask (V.va a.1.2.1 (fa a.2.2.2.2.2.2.1)) ((Wk ((gx a.2.2.2.2.2.2.2.2.2.2.2.2.2.2.2.2.2.1 (ga a.1.2.2.1) (0:Int)),(gx a.2.2.2.2.2.2.1 (ga a.1.2.1) Xc).2.1)).bind fun r1=>
 cond (!r1)
 (K (1,a.1.2.2.2.2.2.1,1,a.2.2.2.2.2.2.2.2.2.2.2.2.2.2.2.2.2.1))
 (ask (V.va a.1.2.1 (fa a.2.2.2.2.2.2.2.2.2.2.2.2.2.2.2.2.2.1)) (K (a.2.2.2.2.2.2.2.2.2.2.2.2.1,a.2.2.2.2.2.2.2.2.2.2.2.2.2.1,a.2.2.2.2.2.2.2.2.2.2.2.2.2.2.1,(Tb a.2.2.2.2.2.2.2.2.2.2.2.2.2.2.2.2.2.1 (ga a.1.2.1) (gx a.2.2.2.2.2.2.2.2.2.2.2.2.2.2.2.2.2.1 (ga a.1.2.2.1) (0:Int))))))))
def Lq:=fun a=>Sy a some
def NU:Spec:=gN.sp Lq
noncomputable def B2:Env:=⟨fun k=>[].contains k,Cb [(77,Cn),(78,cg)],fun X k s K=>none⟩
theorem OU:OK (2) 91 (gN.sp Lq):=
 fO (d:=1) (env:=B2) (Aa (cc Dn (cc fg cn))) (fn:=Tryz.f91) (mc:=@Sy) (by intros;simp only [Lq,Sy,nn]) (za:=[3])
def eN:FS (Tx) (Y15) where
 sk:=⟨(.cons (.ptr 0 0) (.cons (.agg Wc) .nil)),[.fb DG,.cells (.int .i64),.deep (.int .i64),.cells (.slice (.int .i64))],0⟩
 a:=fun u=>((q8 u.1.2.1),u.2.1.1,u.2.1.2.1,u.2.1.2.2.1,u.2.1.t3.1,u.2.1.t4.1,u.2.1.t5.1,u.2.1.t6.1,u.2.1.t7.1,u.2.1.t8.1,u.2.1.t9.1,u.2.1.t11.1,u.2.1.t12.1,u.2.1.t13.1,u.2.1.t14.1,u.2.1.t15.1,u.2.1.t16.1,u.2.2.1,u.t3.1,u.t4.1)
 n:=fun a=>(((),((w8 a.1),())),((a.2.1,(a.2.2.1,(a.t3.1,(a.t4.1,(a.t5.1,(a.t6.1,(a.t7.1,(a.t8.1,(a.t9.1,(a.t10.1,((),(a.t11.1,(a.t12.1,(a.t13.1,(a.t14.1,(a.t15.1,(a.t16.1,((),((),((),())))))))))))))))))))),(w3 a.t17)))
 o:=fun Z a r K=>K (.Rc []) ⟨[.fb [.lit zb a.2.1,.int .i64 a.2.2.1,.int .i64 a.t3.1,.int .i64 a.t4.1,.lit Na a.t5.1,.lit yb a.t6.1,.lit Na a.t7.1,.lit ja a.t8.1,.lit (.int .i64) a.t9.1,.int .i64 a.t10.1,.all 1,.int .i64 a.t11.1,.int .i64 r.1,.int .i64 r.2.1,.int .i64 r.2.2.1,.int .i64 a.t15.1,.int .i64 a.t16.1,.Wa,.all 2,.all 3],.cells (.int .i64) a.t17.1,.deep (.int .i64) r.t3,.cells (.slice (.int .i64)) a.t19],0⟩
def Ry {X:Type} (a:Tx) (K:(Y15)->Option X):Option X:=
 (Dk (a.1,a.2.1,a.2.2.1,a.2.2.2.1,a.2.2.2.2.1,a.2.2.2.2.2.1,a.2.2.2.2.2.2.1,a.2.2.2.2.2.2.2.1,a.2.2.2.2.2.2.2.2.1,a.2.2.2.2.2.2.2.2.2.1,a.2.2.2.2.2.2.2.2.2.2.1,a.2.2.2.2.2.2.2.2.2.2.2.1,a.2.2.2.2.2.2.2.2.2.2.2.2.1,a.2.2.2.2.2.2.2.2.2.2.2.2.2.1,a.2.2.2.2.2.2.2.2.2.2.2.2.2.2.1,a.2.2.2.2.2.2.2.2.2.2.2.2.2.2.2.1,a.2.2.2.2.2.2.2.2.2.2.2.2.2.2.2.2.1,a.2.2.2.2.2.2.2.2.2.2.2.2.2.2.2.2.2.1,a.2.2.2.2.2.2.2.2.2.2.2.2.2.2.2.2.2.2.1,a.2.2.2.2.2.2.2.2.2.2.2.2.2.2.2.2.2.2.2)).bind fun r1=>
 Sum.elim (fun r2=>K (1,a.1.2.2.2.2.2.1,4,a.2.2.2.2.2.2.2.2.2.2.2.2.2.2.2.2.2.2.1))
 (fun r3=>ask (V.va a.1.2.1 (fa a.2.2.2.2.2.2.2.2.2.2.2.2.2.2.2.2.2.1)) (ask (V.va a.1.2.2.1 (fa a.2.2.2.2.2.2.2.1)) ((Wk ((gx a.2.2.2.2.2.2.2.2.2.2.2.2.2.2.2.2.2.1 (ga a.1.2.1) (0:Int)),(gx a.2.2.2.2.2.2.2.1 (ga a.1.2.2.1) Bb).2.1)).bind fun r4=>
 cond (!r4)
 (K (1,a.1.2.2.2.2.2.1,1,a.2.2.2.2.2.2.2.2.2.2.2.2.2.2.2.2.2.2.1))
 (K (a.2.2.2.2.2.2.2.2.2.2.2.2.1,a.2.2.2.2.2.2.2.2.2.2.2.2.2.1,a.2.2.2.2.2.2.2.2.2.2.2.2.2.2.1,(Tb a.2.2.2.2.2.2.2.2.2.2.2.2.2.2.2.2.2.2.1 r3.1 (Tb (gx a.2.2.2.2.2.2.2.2.2.2.2.2.2.2.2.2.2.2.1 r3.1 []) r3.2 (gx a.2.2.2.2.2.2.2.2.2.2.2.2.2.2.2.2.2.1 (ga a.1.2.1) (0:Int))))))))) r1
def Kq:=fun a=>Ry a some
def KU:Spec:=eN.sp Kq
noncomputable def Z1:Env:=⟨fun k=>[].contains k,Cb [(124,ED),(77,Cn),(78,cg)],fun X k s K=>none⟩
theorem LU:OK (3) 92 (eN.sp Kq):=
 fO (d:=2) (env:=Z1) (Aa (cc FD (cc Dn (cc fg cn)))) (fn:=Tryz.f92) (mc:=@Ry) (by intros;simp only [Kq,Ry,nn]) (za:=[3])
def dN:FS (Tx) (Int) where
 sk:=⟨(.cons (.ptr 0 0) (.cons (.agg Wc) .nil)),[.fb DG,.cells (.int .i64),.deep (.int .i64),.cells (.slice (.int .i64))],0⟩
 a:=fun u=>((q8 u.1.2.1),u.2.1.1,u.2.1.2.1,u.2.1.2.2.1,u.2.1.t3.1,u.2.1.t4.1,u.2.1.t5.1,u.2.1.t6.1,u.2.1.t7.1,u.2.1.t8.1,u.2.1.t9.1,u.2.1.t11.1,u.2.1.t12.1,u.2.1.t13.1,u.2.1.t14.1,u.2.1.t15.1,u.2.1.t16.1,u.2.2.1,u.t3.1,u.t4.1)
 n:=fun a=>(((),((w8 a.1),())),((a.2.1,(a.2.2.1,(a.t3.1,(a.t4.1,(a.t5.1,(a.t6.1,(a.t7.1,(a.t8.1,(a.t9.1,(a.t10.1,((),(a.t11.1,(a.t12.1,(a.t13.1,(a.t14.1,(a.t15.1,(a.t16.1,((),((),((),())))))))))))))))))))),(w3 a.t17)))
 o:=fun Z a r K=>K (.Rc []) ⟨[.fb [.lit zb a.2.1,.int .i64 a.2.2.1,.int .i64 a.t3.1,.int .i64 a.t4.1,.lit Na a.t5.1,.lit yb a.t6.1,.lit Na a.t7.1,.lit ja a.t8.1,.lit (.int .i64) a.t9.1,.int .i64 a.t10.1,.all 1,.int .i64 r,.int .i64 a.t12.1,.int .i64 a.t13.1,.int .i64 a.t14.1,.int .i64 a.t15.1,.int .i64 a.t16.1,.Wa,.all 2,.all 3],.cells (.int .i64) a.t17.1,.deep (.int .i64) a.t18.1,.cells (.slice (.int .i64)) a.t19],0⟩
def Qy {X:Type} (a:Tx) (K:Int->Option X):Option X:=
 ask (V.va a.1.2.2.1 (fa a.2.2.2.2.2.2.2.2.2.2.2.2.2.2.2.2.2.1)) (ask (V.va a.1.2.2.2.1 (fa a.2.2.2.2.2.2.2.2.2.2.2.2.2.2.2.2.2.1)) (cond (decide ((Ga (a.1.2.2.2.2.1-(14:Int)))=(0:Int)))
 (cond (!(decide ((gx a.2.2.2.2.2.2.2.2.2.2.2.2.2.2.2.2.2.1 (ga a.1.2.2.1) (0:Int))=(gx a.2.2.2.2.2.2.2.2.2.2.2.2.2.2.2.2.2.1 (ga a.1.2.2.2.1) (0:Int)))))
 (K a.1.2.2.2.2.2.2.2)
 (K a.2.2.2.2.2.2.2.2.2.2.2.1))
 (cond (decide ((Ga (a.1.2.2.2.2.1-(14:Int)))=(1:Int)))
 (cond (!(!(decide ((gx a.2.2.2.2.2.2.2.2.2.2.2.2.2.2.2.2.2.1 (ga a.1.2.2.1) (0:Int))=(gx a.2.2.2.2.2.2.2.2.2.2.2.2.2.2.2.2.2.1 (ga a.1.2.2.2.1) (0:Int))))))
 (K a.1.2.2.2.2.2.2.2)
 (K a.2.2.2.2.2.2.2.2.2.2.2.1))
 (cond (decide ((Ga (a.1.2.2.2.2.1-(14:Int)))=(2:Int)))
 (cond (!(decide ((gx a.2.2.2.2.2.2.2.2.2.2.2.2.2.2.2.2.2.1 (ga a.1.2.2.1) (0:Int))<(gx a.2.2.2.2.2.2.2.2.2.2.2.2.2.2.2.2.2.1 (ga a.1.2.2.2.1) (0:Int)))))
 (K a.1.2.2.2.2.2.2.2)
 (K a.2.2.2.2.2.2.2.2.2.2.2.1))
 (cond (decide ((Ga (a.1.2.2.2.2.1-(14:Int)))=(3:Int)))
 (cond (!(decide ((gx a.2.2.2.2.2.2.2.2.2.2.2.2.2.2.2.2.2.1 (ga a.1.2.2.1) (0:Int))<=(gx a.2.2.2.2.2.2.2.2.2.2.2.2.2.2.2.2.2.1 (ga a.1.2.2.2.1) (0:Int)))))
 (K a.1.2.2.2.2.2.2.2)
 (K a.2.2.2.2.2.2.2.2.2.2.2.1))
 (cond (decide ((Ga (a.1.2.2.2.2.1-(14:Int)))=(4:Int)))
 (cond (!(decide ((gx a.2.2.2.2.2.2.2.2.2.2.2.2.2.2.2.2.2.1 (ga a.1.2.2.2.1) (0:Int))<(gx a.2.2.2.2.2.2.2.2.2.2.2.2.2.2.2.2.2.1 (ga a.1.2.2.1) (0:Int)))))
 (K a.1.2.2.2.2.2.2.2)
 (K a.2.2.2.2.2.2.2.2.2.2.2.1))
 (cond (decide ((Ga (a.1.2.2.2.2.1-(14:Int)))=(5:Int)))
 (cond (!(decide ((gx a.2.2.2.2.2.2.2.2.2.2.2.2.2.2.2.2.2.1 (ga a.1.2.2.2.1) (0:Int))<=(gx a.2.2.2.2.2.2.2.2.2.2.2.2.2.2.2.2.2.1 (ga a.1.2.2.1) (0:Int)))))
 (K a.1.2.2.2.2.2.2.2)
 (K a.2.2.2.2.2.2.2.2.2.2.2.1))
 (none))))))))
def Jq:=fun a=>Qy a some
def HU:Spec:=dN.sp Jq
noncomputable def X1:Env:=⟨fun k=>[].contains k,Cb [],fun X k s K=>none⟩
theorem IU:OK (1) 93 (dN.sp Jq):=
 fO (d:=0) (env:=X1) (Aa cn) (fn:=Tryz.f93) (mc:=@Qy) (by intros;simp only [Jq,Qy,nn]) (za:=[3,6])
def mN:FS (Tx) (Unit) where
 sk:=⟨(.cons (.ptr 0 0) (.cons (.agg Wc) .nil)),[.fb DG,.cells (.int .i64),.deep (.int .i64),.cells (.slice (.int .i64))],0⟩
 a:=fun u=>((q8 u.1.2.1),u.2.1.1,u.2.1.2.1,u.2.1.2.2.1,u.2.1.t3.1,u.2.1.t4.1,u.2.1.t5.1,u.2.1.t6.1,u.2.1.t7.1,u.2.1.t8.1,u.2.1.t9.1,u.2.1.t11.1,u.2.1.t12.1,u.2.1.t13.1,u.2.1.t14.1,u.2.1.t15.1,u.2.1.t16.1,u.2.2.1,u.t3.1,u.t4.1)
 n:=fun a=>(((),((w8 a.1),())),((a.2.1,(a.2.2.1,(a.t3.1,(a.t4.1,(a.t5.1,(a.t6.1,(a.t7.1,(a.t8.1,(a.t9.1,(a.t10.1,((),(a.t11.1,(a.t12.1,(a.t13.1,(a.t14.1,(a.t15.1,(a.t16.1,((),((),((),())))))))))))))))))))),(w3 a.t17)))
 o:=fun Z a r K=>K (.Rc []) ⟨[.fb [.lit zb a.2.1,.int .i64 a.2.2.1,.int .i64 a.t3.1,.int .i64 a.t4.1,.lit Na a.t5.1,.lit yb a.t6.1,.lit Na a.t7.1,.lit ja a.t8.1,.lit (.int .i64) a.t9.1,.int .i64 a.t10.1,.all 1,.int .i64 a.t11.1,.int .i64 a.t12.1,.int .i64 a.t13.1,.int .i64 a.t14.1,.int .i64 a.t15.1,.int .i64 a.t16.1,.Wa,.all 2,.all 3],.cells (.int .i64) a.t17.1,.deep (.int .i64) a.t18.1,.cells (.slice (.int .i64)) a.t19],0⟩
def jF {X:Type} (a:Tx) (K:Unit->Option X):Option X:=
 K ()
def iF:=fun a=>jF a some
def zV:Spec:=mN.sp iF
noncomputable def N2:Env:=⟨fun k=>[].contains k,Cb [],fun X k s K=>none⟩
theorem BV:OK (1) 79 (mN.sp iF):=
 fO (d:=0) (env:=N2) (Aa cn) (fn:=Tryz.f79) (mc:=@jF) (by intros;simp only [iF,jF,nn]) (za:=[3])
def ZM:FS (Y22) (Bool×Int×Int) where
 sk:=⟨(.cons (.ptr 0 0) .nil),[.fb DG,.cells (.int .i64),.deep (.int .i64),.cells (.slice (.int .i64))],0⟩
 a:=fun u=>(u.2.1.1,u.2.1.2.1,u.2.1.2.2.1,u.2.1.t3.1,u.2.1.t4.1,u.2.1.t5.1,u.2.1.t6.1,u.2.1.t7.1,u.2.1.t8.1,u.2.1.t9.1,u.2.1.t11.1,u.2.1.t12.1,u.2.1.t13.1,u.2.1.t14.1,u.2.1.t15.1,u.2.1.t16.1,u.2.2.1,u.t3.1,u.t4.1)
 n:=fun a=>(((),()),((a.1,(a.2.1,(a.2.2.1,(a.t3.1,(a.t4.1,(a.t5.1,(a.t6.1,(a.t7.1,(a.t8.1,(a.t9.1,((),(a.t10.1,(a.t11.1,(a.t12.1,(a.t13.1,(a.t14.1,(a.t15.1,((),((),((),())))))))))))))))))))),(w3 a.t16)))
 o:=fun Z a r K=>K (.bool r.1) ⟨[.fb [.lit zb a.1,.int .i64 a.2.1,.int .i64 a.2.2.1,.int .i64 a.t3.1,.lit Na a.t4.1,.lit yb a.t5.1,.lit Na a.t6.1,.lit ja a.t7.1,.lit (.int .i64) a.t8.1,.int .i64 r.2.1,.all 1,.int .i64 a.t10.1,.int .i64 r.2.2,.int .i64 a.t12.1,.int .i64 a.t13.1,.int .i64 a.t14.1,.int .i64 a.t15.1,.Wa,.all 2,.all 3],.cells (.int .i64) a.t16.1,.deep (.int .i64) a.t17.1,.cells (.slice (.int .i64)) a.t18],0⟩
def Ny {X:Type} (a:Y22) (K:(Bool×Int×Int)->Option X):Option X:=
 cond (decide (a.2.2.2.2.2.2.2.2.2.1=(0:Int)))
 (K (false,a.2.2.2.2.2.2.2.2.2.1,4))
 (K (true,(Ga (a.2.2.2.2.2.2.2.2.2.1-(1:Int))),a.2.2.2.2.2.2.2.2.2.2.2.1))
def Tj:=fun a=>Ny a some
def YH:Spec:=ZM.sp Tj
noncomputable def S1:Env:=⟨fun k=>[].contains k,Cb [(125,Dw)],fun X k s K=>none⟩
theorem ZH:OK (2) 97 (ZM.sp Tj):=
 fO (d:=1) (env:=S1) (Aa (cc Ew cn)) (fn:=Tryz.f97) (mc:=@Ny) (by intros;simp only [Tj,Ny,nn])
def CN:FS (Y22) ((List Int)) where
 sk:=⟨(.cons (.ptr 0 0) .nil),[.fb DG,.cells (.int .i64),.deep (.int .i64),.cells (.slice (.int .i64))],4⟩
 a:=fun u=>(u.2.1.1,u.2.1.2.1,u.2.1.2.2.1,u.2.1.t3.1,u.2.1.t4.1,u.2.1.t5.1,u.2.1.t6.1,u.2.1.t7.1,u.2.1.t8.1,u.2.1.t9.1,u.2.1.t11.1,u.2.1.t12.1,u.2.1.t13.1,u.2.1.t14.1,u.2.1.t15.1,u.2.1.t16.1,u.2.2.1,u.t3.1,u.t4.1)
 n:=fun a=>(((),()),((a.1,(a.2.1,(a.2.2.1,(a.t3.1,(a.t4.1,(a.t5.1,(a.t6.1,(a.t7.1,(a.t8.1,(a.t9.1,((),(a.t10.1,(a.t11.1,(a.t12.1,(a.t13.1,(a.t14.1,(a.t15.1,((),((),((),())))))))))))))))))))),(w3 a.t16)))
 o:=fun Z a r K=>K (.lit (.int .i64) r) ⟨[.fb [.lit zb a.1,.int .i64 a.2.1,.int .i64 a.2.2.1,.int .i64 a.t3.1,.lit Na a.t4.1,.lit yb a.t5.1,.lit Na a.t6.1,.lit ja a.t7.1,.lit (.int .i64) a.t8.1,.int .i64 a.t9.1,.all 1,.int .i64 a.t10.1,.int .i64 a.t11.1,.int .i64 a.t12.1,.int .i64 a.t13.1,.int .i64 a.t14.1,.int .i64 a.t15.1,.Wa,.all 2,.all 3],.cells (.int .i64) a.t16.1,.deep (.int .i64) a.t17.1,.cells (.slice (.int .i64)) a.t18],4⟩
def gz {X:Type} (a:Y22) (K:(List Int)->Option X):Option X:=
 ask (decide (0<=(0:Int))&&decide ((0:Int)<=(nt (fa a.2.2.2.2.2.1)))&&decide ((nt (fa a.2.2.2.2.2.1))<=(nt (fa a.2.2.2.2.2.2.2.2.2.2.2.2.2.2.2.2.1)))) (ask (decide ((fa (Vi 0 (ga (nt (fa a.2.2.2.2.2.1))-0) a.2.2.2.2.2.2.2.2.2.2.2.2.2.2.2.2.1)) * 8<=70368744177664)&&decide ((fa (Vi 0 (ga (nt (fa a.2.2.2.2.2.1))-0) a.2.2.2.2.2.2.2.2.2.2.2.2.2.2.2.2.1))<9223372036854775808)) (K (Vi 0 (ga (nt (fa a.2.2.2.2.2.1))-0) a.2.2.2.2.2.2.2.2.2.2.2.2.2.2.2.2.1)))
def Yk:=fun a=>gz a some
def KW:Spec:=CN.sp Yk
noncomputable def F3:Env:=⟨fun k=>[].contains k,Cb [],fun X k s K=>none⟩
theorem LW:OK (1) 57 (CN.sp Yk):=
 fO (d:=0) (env:=F3) (Aa cn) (fn:=Tryz.f57) (mc:=@gz) (by intros;simp only [Yk,gz,nn]) (sh:=(.lit (.int .i64))) (fz:=true)
end
end Go.U
end
