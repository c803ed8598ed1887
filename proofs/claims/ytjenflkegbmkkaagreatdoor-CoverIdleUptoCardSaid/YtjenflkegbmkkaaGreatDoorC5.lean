/- The functions of the program as Lean functions, and that the evaluator says so. -/
import Derived.Test.YtjenflkegbmkkaaGreatDoorC4
set_option linter.unusedVariables false
set_option linter.unusedSimpArgs false
set_option linter.unusedSectionVars false
open Int renaming toNat→ga
open List renaming length→fa,set→Tb
section
set_option maxRecDepth 100000
namespace Go.U
open Go Go.Proofs
noncomputable section
variable {C:V.Callee}
def kN:FS (Px) (ZD) where
 sk:=⟨(.cons (.ptr 0 0) (.cons (.agg Wc) .nil)),[.fb BG,.cells (.int .i64),.deep (.int .i64),.cells (.slice (.int .i64))],0⟩
 a:=fun u=>((q8 u.1.2.1),u.2.1.1,u.2.1.2.1,u.2.1.2.2.1,u.2.1.t3.1,u.2.1.t4.1,u.2.1.t5.1,u.2.1.t6.1,u.2.1.t7.1,u.2.1.t8.1,u.2.1.t9.1,u.2.1.t11.1,u.2.1.t12.1,u.2.1.t13.1,u.2.1.t14.1,u.2.1.t15.1,u.2.1.t16.1,u.2.2.1,u.t3.1,u.t4.1)
 n:=fun a=>(((),((w8 a.1),())),((a.2.1,(a.2.2.1,(a.t3.1,(a.t4.1,(a.t5.1,(a.t6.1,(a.t7.1,(a.t8.1,(a.t9.1,(a.t10.1,((),(a.t11.1,(a.t12.1,(a.t13.1,(a.t14.1,(a.t15.1,(a.t16.1,((),((),((),())))))))))))))))))))),(w3 a.t17)))
 o:=fun Z a r K=>K (.Rc []) ⟨[.fb [.lit zb a.2.1,.int .i64 a.2.2.1,.int .i64 a.t3.1,.int .i64 a.t4.1,.lit Na a.t5.1,.lit yb a.t6.1,.lit Na a.t7.1,.lit ja a.t8.1,.lit (.int .i64) a.t9.1,.int .i64 a.t10.1,.all 1,.int .i64 a.t11.1,.int .i64 r.1,.int .i64 r.2.1,.int .i64 r.2.2.1,.int .i64 a.t15.1,.int .i64 a.t16.1,.Wa,.all 2,.all 3],.cells (.int .i64) r.t3,.deep (.int .i64) a.t18.1,.cells (.slice (.int .i64)) a.t19],0⟩
def su {X:Type} (a:Px) (K:(ZD)->Option X):Option X:=
 ask (V.va a.1.2.2.1 (fa a.2.2.2.2.2.2.2.2.2.2.2.2.2.2.2.2.2.1)) (ask (V.va a.1.2.2.2.1 (fa a.2.2.2.2.2.2.2.2.2.2.2.2.2.2.2.2.2.1)) (cond (decide ((gx a.2.2.2.2.2.2.2.2.2.2.2.2.2.2.2.2.2.1 (ga a.1.2.2.2.1) (0:Int))=(0:Int)))
 (K (1,a.1.2.2.2.2.2.1,2,a.2.2.2.2.2.2.2.2.2.2.2.2.2.2.2.2.2.1))
 (cond (decide ((gx a.2.2.2.2.2.2.2.2.2.2.2.2.2.2.2.2.2.1 (ga a.1.2.2.2.1) (0:Int))=(0:Int)))
 (none)
 (cond (decide (a.1.1=(7:Int)))
 (cond (decide ((gx a.2.2.2.2.2.2.2.2.2.2.2.2.2.2.2.2.2.1 (ga a.1.2.2.1) (0:Int))=(-2147483648:Int)))
 (cond (decide ((gx a.2.2.2.2.2.2.2.2.2.2.2.2.2.2.2.2.2.1 (ga a.1.2.2.2.1) (0:Int))=(-1:Int)))
 (K (1,a.1.2.2.2.2.2.1,3,a.2.2.2.2.2.2.2.2.2.2.2.2.2.2.2.2.2.1))
 (cond (decide ((gx a.2.2.2.2.2.2.2.2.2.2.2.2.2.2.2.2.2.1 (ga a.1.2.2.2.1) (0:Int))=(0:Int)))
 (none)
 (ask (V.va a.1.2.1 (fa a.2.2.2.2.2.2.2.2.2.2.2.2.2.2.2.2.2.1)) (K (a.2.2.2.2.2.2.2.2.2.2.2.2.1,a.2.2.2.2.2.2.2.2.2.2.2.2.2.1,a.2.2.2.2.2.2.2.2.2.2.2.2.2.2.1,(Tb a.2.2.2.2.2.2.2.2.2.2.2.2.2.2.2.2.2.1 (ga a.1.2.1) (Ga (Int.tdiv (gx a.2.2.2.2.2.2.2.2.2.2.2.2.2.2.2.2.2.1 (ga a.1.2.2.1) (0:Int)) (gx a.2.2.2.2.2.2.2.2.2.2.2.2.2.2.2.2.2.1 (ga a.1.2.2.2.1) (0:Int))))))))))
 (cond (decide ((gx a.2.2.2.2.2.2.2.2.2.2.2.2.2.2.2.2.2.1 (ga a.1.2.2.2.1) (0:Int))=(0:Int)))
 (none)
 (ask (V.va a.1.2.1 (fa a.2.2.2.2.2.2.2.2.2.2.2.2.2.2.2.2.2.1)) (K (a.2.2.2.2.2.2.2.2.2.2.2.2.1,a.2.2.2.2.2.2.2.2.2.2.2.2.2.1,a.2.2.2.2.2.2.2.2.2.2.2.2.2.2.1,(Tb a.2.2.2.2.2.2.2.2.2.2.2.2.2.2.2.2.2.1 (ga a.1.2.1) (Ga (Int.tdiv (gx a.2.2.2.2.2.2.2.2.2.2.2.2.2.2.2.2.2.1 (ga a.1.2.2.1) (0:Int)) (gx a.2.2.2.2.2.2.2.2.2.2.2.2.2.2.2.2.2.1 (ga a.1.2.2.2.1) (0:Int))))))))))
 (cond (decide (a.1.1=(8:Int)))
 (ask (V.va a.1.2.1 (fa a.2.2.2.2.2.2.2.2.2.2.2.2.2.2.2.2.2.1)) (K (a.2.2.2.2.2.2.2.2.2.2.2.2.1,a.2.2.2.2.2.2.2.2.2.2.2.2.2.1,a.2.2.2.2.2.2.2.2.2.2.2.2.2.2.1,(Tb a.2.2.2.2.2.2.2.2.2.2.2.2.2.2.2.2.2.1 (ga a.1.2.1) (Int.tmod (gx a.2.2.2.2.2.2.2.2.2.2.2.2.2.2.2.2.2.1 (ga a.1.2.2.1) (0:Int)) (gx a.2.2.2.2.2.2.2.2.2.2.2.2.2.2.2.2.2.1 (ga a.1.2.2.2.1) (0:Int)))))))
 (K (a.2.2.2.2.2.2.2.2.2.2.2.2.1,a.2.2.2.2.2.2.2.2.2.2.2.2.2.1,a.2.2.2.2.2.2.2.2.2.2.2.2.2.2.1,a.2.2.2.2.2.2.2.2.2.2.2.2.2.2.2.2.2.1)))))))
def Vj:=fun a=>su a some
def lV:Spec:=kN.sp Vj
noncomputable def M2:Env:=⟨fun k=>[].contains k,Cb [(78,cg)],fun X k s K=>none⟩
theorem mV:OK (2) 86 (kN.sp Vj):=
 fO (d:=1) (env:=M2) (Aa (cc fg cn)) (fn:=Tryz.f86) (mc:=@su) (by intros;simp only [Vj,su,nn]) (za:=[3])
def BA:FS (BO) (ZD) where
 sk:=⟨(.cons (.ptr 2 0) (.cons (.agg Wc) (.cons (.ptr 0 0) (.cons (.ptr 1 0) .nil)))),[.fb (.cons (.fn 87 .nil) .nil),.fb (.cons .bool .nil),.fb J8,.cells (.int .i64),.deep (.int .i64),.cells (.slice (.int .i64))],0⟩
 a:=fun u=>((q8 u.1.2.1),u.2.2.1.1,u.t3.1.1,u.t3.1.2.1,u.t3.1.2.2.1,u.t3.1.t3.1,u.t3.1.t4.1,u.t3.1.t5.1,u.t3.1.t6.1,u.t3.1.t7.1,u.t3.1.t8.1,u.t3.1.t9.1,u.t3.1.t11.1,u.t3.1.t12.1,u.t3.1.t13.1,u.t3.1.t14.1,u.t3.1.t15.1,u.t3.1.t16.1,u.t4.1,u.t5.1,u.t6.1)
 n:=fun a=>(((),((w8 a.1),((),((),())))),(((),()),((a.2.1,()),((a.2.2.1,(a.t3.1,(a.t4.1,(a.t5.1,(a.t6.1,(a.t7.1,(a.t8.1,(a.t9.1,(a.t10.1,(a.t11.1,((),(a.t12.1,(a.t13.1,(a.t14.1,(a.t15.1,(a.t16.1,(a.t17.1,((),((),((),())))))))))))))))))))),(w3 a.t18)))))
 o:=fun Z a r K=>K (.Rc []) ⟨[.fb [.fn 87 []],.fb [.bool a.2.1],.fb [.lit zb a.2.2.1,.int .i64 a.t3.1,.int .i64 a.t4.1,.int .i64 a.t5.1,.lit Na a.t6.1,.lit yb a.t7.1,.lit Na a.t8.1,.lit ja a.t9.1,.lit (.int .i64) a.t10.1,.int .i64 a.t11.1,.all 3,.int .i64 a.t12.1,.int .i64 r.1,.int .i64 r.2.1,.int .i64 r.2.2.1,.int .i64 a.t16.1,.int .i64 a.t17.1,.Wa,.all 4,.all 5],.cells (.int .i64) r.t3,.deep (.int .i64) a.t19.1,.cells (.slice (.int .i64)) a.t20],0⟩
def uu {X:Type} (a:BO) (K:(ZD)->Option X):Option X:=
 ask (V.va a.1.2.2.1 (fa a.2.2.2.2.2.2.2.2.2.2.2.2.2.2.2.2.2.2.1)) (ask (V.va a.1.2.2.2.1 (fa a.2.2.2.2.2.2.2.2.2.2.2.2.2.2.2.2.2.2.1)) (cond a.2.1
 ((Xk ((if (gx a.2.2.2.2.2.2.2.2.2.2.2.2.2.2.2.2.2.2.1 (ga a.1.2.2.2.1) (0:Int))<(gx a.2.2.2.2.2.2.2.2.2.2.2.2.2.2.2.2.2.2.1 (ga a.1.2.2.1) (0:Int)) then (gx a.2.2.2.2.2.2.2.2.2.2.2.2.2.2.2.2.2.2.1 (ga a.1.2.2.2.1) (0:Int)) else (gx a.2.2.2.2.2.2.2.2.2.2.2.2.2.2.2.2.2.2.1 (ga a.1.2.2.1) (0:Int))),3)).bind fun r1=>
 cond (!r1)
 (K (1,a.1.2.2.2.2.2.1,1,a.2.2.2.2.2.2.2.2.2.2.2.2.2.2.2.2.2.2.1))
 (ask (V.va a.1.2.1 (fa a.2.2.2.2.2.2.2.2.2.2.2.2.2.2.2.2.2.2.1)) (K (a.2.2.2.2.2.2.2.2.2.2.2.2.2.1,a.2.2.2.2.2.2.2.2.2.2.2.2.2.2.1,a.2.2.2.2.2.2.2.2.2.2.2.2.2.2.2.1,(Tb a.2.2.2.2.2.2.2.2.2.2.2.2.2.2.2.2.2.2.1 (ga a.1.2.1) (if (gx a.2.2.2.2.2.2.2.2.2.2.2.2.2.2.2.2.2.2.1 (ga a.1.2.2.2.1) (0:Int))<(gx a.2.2.2.2.2.2.2.2.2.2.2.2.2.2.2.2.2.2.1 (ga a.1.2.2.1) (0:Int)) then (gx a.2.2.2.2.2.2.2.2.2.2.2.2.2.2.2.2.2.2.1 (ga a.1.2.2.2.1) (0:Int)) else (gx a.2.2.2.2.2.2.2.2.2.2.2.2.2.2.2.2.2.2.1 (ga a.1.2.2.1) (0:Int))))))))
 (ask (V.va a.1.2.1 (fa a.2.2.2.2.2.2.2.2.2.2.2.2.2.2.2.2.2.2.1)) (K (a.2.2.2.2.2.2.2.2.2.2.2.2.2.1,a.2.2.2.2.2.2.2.2.2.2.2.2.2.2.1,a.2.2.2.2.2.2.2.2.2.2.2.2.2.2.2.1,(Tb a.2.2.2.2.2.2.2.2.2.2.2.2.2.2.2.2.2.2.1 (ga a.1.2.1) (if (gx a.2.2.2.2.2.2.2.2.2.2.2.2.2.2.2.2.2.2.1 (ga a.1.2.2.2.1) (0:Int))<(gx a.2.2.2.2.2.2.2.2.2.2.2.2.2.2.2.2.2.2.1 (ga a.1.2.2.1) (0:Int)) then (gx a.2.2.2.2.2.2.2.2.2.2.2.2.2.2.2.2.2.2.1 (ga a.1.2.2.2.1) (0:Int)) else (gx a.2.2.2.2.2.2.2.2.2.2.2.2.2.2.2.2.2.2.1 (ga a.1.2.2.1) (0:Int)))))))))
def Em:=fun a=>uu a some
def kQ:Spec:=BA.sp Em
noncomputable def OV:Env:=⟨fun k=>[].contains k,Cb [(87,c_),(77,Bn),(78,cg)],fun X k s K=>none⟩
theorem lQ:OK (2) 76 (BA.sp Em):=
 fO (d:=1) (env:=OV) (Aa (cc d_ (cc Cn (cc fg cn)))) (fn:=Tryz.f76) (mc:=@uu) (by intros;simp only [Em,uu,nn]) (za:=[5])
def ZH:FS (BO) (ZD) where
 sk:=⟨(.cons (.ptr 2 0) (.cons (.agg Wc) (.cons (.ptr 0 0) (.cons (.ptr 1 0) .nil)))),[.fb (.cons (.fn 88 .nil) .nil),.fb (.cons .bool .nil),.fb J8,.cells (.int .i64),.deep (.int .i64),.cells (.slice (.int .i64))],0⟩
 a:=fun u=>((q8 u.1.2.1),u.2.2.1.1,u.t3.1.1,u.t3.1.2.1,u.t3.1.2.2.1,u.t3.1.t3.1,u.t3.1.t4.1,u.t3.1.t5.1,u.t3.1.t6.1,u.t3.1.t7.1,u.t3.1.t8.1,u.t3.1.t9.1,u.t3.1.t11.1,u.t3.1.t12.1,u.t3.1.t13.1,u.t3.1.t14.1,u.t3.1.t15.1,u.t3.1.t16.1,u.t4.1,u.t5.1,u.t6.1)
 n:=fun a=>(((),((w8 a.1),((),((),())))),(((),()),((a.2.1,()),((a.2.2.1,(a.t3.1,(a.t4.1,(a.t5.1,(a.t6.1,(a.t7.1,(a.t8.1,(a.t9.1,(a.t10.1,(a.t11.1,((),(a.t12.1,(a.t13.1,(a.t14.1,(a.t15.1,(a.t16.1,(a.t17.1,((),((),((),())))))))))))))))))))),(w3 a.t18)))))
 o:=fun Z a r K=>K (.Rc []) ⟨[.fb [.fn 88 []],.fb [.bool a.2.1],.fb [.lit zb a.2.2.1,.int .i64 a.t3.1,.int .i64 a.t4.1,.int .i64 a.t5.1,.lit Na a.t6.1,.lit yb a.t7.1,.lit Na a.t8.1,.lit ja a.t9.1,.lit (.int .i64) a.t10.1,.int .i64 a.t11.1,.all 3,.int .i64 a.t12.1,.int .i64 r.1,.int .i64 r.2.1,.int .i64 r.2.2.1,.int .i64 a.t16.1,.int .i64 a.t17.1,.Wa,.all 4,.all 5],.cells (.int .i64) r.t3,.deep (.int .i64) a.t19.1,.cells (.slice (.int .i64)) a.t20],0⟩
def tu {X:Type} (a:BO) (K:(ZD)->Option X):Option X:=
 ask (V.va a.1.2.2.1 (fa a.2.2.2.2.2.2.2.2.2.2.2.2.2.2.2.2.2.2.1)) (ask (V.va a.1.2.2.2.1 (fa a.2.2.2.2.2.2.2.2.2.2.2.2.2.2.2.2.2.2.1)) (cond a.2.1
 ((Xk ((if (gx a.2.2.2.2.2.2.2.2.2.2.2.2.2.2.2.2.2.2.1 (ga a.1.2.2.2.1) (0:Int))>(gx a.2.2.2.2.2.2.2.2.2.2.2.2.2.2.2.2.2.2.1 (ga a.1.2.2.1) (0:Int)) then (gx a.2.2.2.2.2.2.2.2.2.2.2.2.2.2.2.2.2.2.1 (ga a.1.2.2.2.1) (0:Int)) else (gx a.2.2.2.2.2.2.2.2.2.2.2.2.2.2.2.2.2.2.1 (ga a.1.2.2.1) (0:Int))),3)).bind fun r1=>
 cond (!r1)
 (K (1,a.1.2.2.2.2.2.1,1,a.2.2.2.2.2.2.2.2.2.2.2.2.2.2.2.2.2.2.1))
 (ask (V.va a.1.2.1 (fa a.2.2.2.2.2.2.2.2.2.2.2.2.2.2.2.2.2.2.1)) (K (a.2.2.2.2.2.2.2.2.2.2.2.2.2.1,a.2.2.2.2.2.2.2.2.2.2.2.2.2.2.1,a.2.2.2.2.2.2.2.2.2.2.2.2.2.2.2.1,(Tb a.2.2.2.2.2.2.2.2.2.2.2.2.2.2.2.2.2.2.1 (ga a.1.2.1) (if (gx a.2.2.2.2.2.2.2.2.2.2.2.2.2.2.2.2.2.2.1 (ga a.1.2.2.2.1) (0:Int))>(gx a.2.2.2.2.2.2.2.2.2.2.2.2.2.2.2.2.2.2.1 (ga a.1.2.2.1) (0:Int)) then (gx a.2.2.2.2.2.2.2.2.2.2.2.2.2.2.2.2.2.2.1 (ga a.1.2.2.2.1) (0:Int)) else (gx a.2.2.2.2.2.2.2.2.2.2.2.2.2.2.2.2.2.2.1 (ga a.1.2.2.1) (0:Int))))))))
 (ask (V.va a.1.2.1 (fa a.2.2.2.2.2.2.2.2.2.2.2.2.2.2.2.2.2.2.1)) (K (a.2.2.2.2.2.2.2.2.2.2.2.2.2.1,a.2.2.2.2.2.2.2.2.2.2.2.2.2.2.1,a.2.2.2.2.2.2.2.2.2.2.2.2.2.2.2.1,(Tb a.2.2.2.2.2.2.2.2.2.2.2.2.2.2.2.2.2.2.1 (ga a.1.2.1) (if (gx a.2.2.2.2.2.2.2.2.2.2.2.2.2.2.2.2.2.2.1 (ga a.1.2.2.2.1) (0:Int))>(gx a.2.2.2.2.2.2.2.2.2.2.2.2.2.2.2.2.2.2.1 (ga a.1.2.2.1) (0:Int)) then (gx a.2.2.2.2.2.2.2.2.2.2.2.2.2.2.2.2.2.2.1 (ga a.1.2.2.2.1) (0:Int)) else (gx a.2.2.2.2.2.2.2.2.2.2.2.2.2.2.2.2.2.2.1 (ga a.1.2.2.1) (0:Int)))))))))
def Dm:=fun a=>tu a some
def gQ:Spec:=ZH.sp Dm
noncomputable def NV:Env:=⟨fun k=>[].contains k,Cb [(88,a_),(77,Bn),(78,cg)],fun X k s K=>none⟩
theorem iQ:OK (2) 76 (ZH.sp Dm):=
 fO (d:=1) (env:=NV) (Aa (cc b_ (cc Cn (cc fg cn)))) (fn:=Tryz.f76) (mc:=@tu) (by intros;simp only [Dm,tu,nn]) (za:=[5])
def II:FS (Px) ((Unit) ⊕ (Nat×Nat)) where
 sk:=⟨(.cons (.ptr 0 0) (.cons (.agg Wc) .nil)),[.fb BG,.cells (.int .i64),.deep (.int .i64),.cells (.slice (.int .i64))],0⟩
 a:=fun u=>((q8 u.1.2.1),u.2.1.1,u.2.1.2.1,u.2.1.2.2.1,u.2.1.t3.1,u.2.1.t4.1,u.2.1.t5.1,u.2.1.t6.1,u.2.1.t7.1,u.2.1.t8.1,u.2.1.t9.1,u.2.1.t11.1,u.2.1.t12.1,u.2.1.t13.1,u.2.1.t14.1,u.2.1.t15.1,u.2.1.t16.1,u.2.2.1,u.t3.1,u.t4.1)
 n:=fun a=>(((),((w8 a.1),())),((a.2.1,(a.2.2.1,(a.t3.1,(a.t4.1,(a.t5.1,(a.t6.1,(a.t7.1,(a.t8.1,(a.t9.1,(a.t10.1,((),(a.t11.1,(a.t12.1,(a.t13.1,(a.t14.1,(a.t15.1,(a.t16.1,((),((),((),())))))))))))))))))))),(w3 a.t17)))
 o:=fun Z a r K=>Sum.elim (fun e=>K (.Rc [.De,.bool false]) ⟨[.fb [.lit zb a.2.1,.int .i64 a.2.2.1,.int .i64 a.t3.1,.int .i64 a.t4.1,.lit Na a.t5.1,.lit yb a.t6.1,.lit Na a.t7.1,.lit ja a.t8.1,.lit (.int .i64) a.t9.1,.int .i64 a.t10.1,.all 1,.int .i64 a.t11.1,.int .i64 1,.int .i64 a.1.t5.1,.int .i64 4,.int .i64 a.t15.1,.int .i64 a.t16.1,.Wa,.all 2,.all 3],.cells (.int .i64) a.t17.1,.deep (.int .i64) a.t18.1,.cells (.slice (.int .i64)) a.t19],0⟩) (fun e=>K (.Rc [.zo 2 e.1 e.2 0,.bool true]) ⟨[.fb [.lit zb a.2.1,.int .i64 a.2.2.1,.int .i64 a.t3.1,.int .i64 a.t4.1,.lit Na a.t5.1,.lit yb a.t6.1,.lit Na a.t7.1,.lit ja a.t8.1,.lit (.int .i64) a.t9.1,.int .i64 a.t10.1,.all 1,.int .i64 a.t11.1,.int .i64 a.t12.1,.int .i64 a.t13.1,.int .i64 a.t14.1,.int .i64 a.t15.1,.int .i64 a.t16.1,.Wa,.all 2,.all 3],.cells (.int .i64) a.t17.1,.deep (.int .i64) a.t18.1,.cells (.slice (.int .i64)) a.t19],0⟩) r
def Hu {X:Type} (a:Px) (K:(Unit) ⊕ (Nat×Nat)->Option X):Option X:=
 ask (V.va a.1.2.2.2.1 (fa a.2.2.2.2.2.2.2.2.2.2.2.2.2.2.2.2.2.1)) (cond (decide ((gx a.2.2.2.2.2.2.2.2.2.2.2.2.2.2.2.2.2.1 (ga a.1.2.2.2.1) (0:Int))<(0:Int)))
 (K (.inl ()))
 (ask (V.va a.1.2.2.1 (fa a.2.2.2.2.2.2.2.1)) (cond (decide ((gx a.2.2.2.2.2.2.2.1 (ga a.1.2.2.1) Bb).2.2.1<=(gx a.2.2.2.2.2.2.2.2.2.2.2.2.2.2.2.2.2.1 (ga a.1.2.2.2.1) (0:Int))))
 (K (.inl ()))
 (ask (V.va a.1.2.2.1 (fa a.2.2.2.2.2.2.2.2.2.2.2.2.2.2.2.2.2.2.1)) (ask (V.va (gx a.2.2.2.2.2.2.2.2.2.2.2.2.2.2.2.2.2.1 (ga a.1.2.2.2.1) (0:Int)) (fa (gx a.2.2.2.2.2.2.2.2.2.2.2.2.2.2.2.2.2.2.1 (ga a.1.2.2.1) []))) (K (.inr (((ga a.1.2.2.1),(ga (gx a.2.2.2.2.2.2.2.2.2.2.2.2.2.2.2.2.2.1 (ga a.1.2.2.2.1) (0:Int))))))))))))
def Ek:=fun a=>Hu a some
def FD:Spec:=II.sp Ek
noncomputable def kY:Env:=⟨fun k=>[].contains k,Cb [(78,cg)],fun X k s K=>none⟩
theorem GD:OK (2) 124 (II.sp Ek):=
 fO (d:=1) (env:=kY) (Aa (cc fg cn)) (fn:=Tryz.f124) (mc:=@Hu) (by intros;simp only [Ek,Hu,nn]) (za:=[3])
def jN:FS (Px) (ZD) where
 sk:=⟨(.cons (.ptr 0 0) (.cons (.agg Wc) .nil)),[.fb BG,.cells (.int .i64),.deep (.int .i64),.cells (.slice (.int .i64))],0⟩
 a:=fun u=>((q8 u.1.2.1),u.2.1.1,u.2.1.2.1,u.2.1.2.2.1,u.2.1.t3.1,u.2.1.t4.1,u.2.1.t5.1,u.2.1.t6.1,u.2.1.t7.1,u.2.1.t8.1,u.2.1.t9.1,u.2.1.t11.1,u.2.1.t12.1,u.2.1.t13.1,u.2.1.t14.1,u.2.1.t15.1,u.2.1.t16.1,u.2.2.1,u.t3.1,u.t4.1)
 n:=fun a=>(((),((w8 a.1),())),((a.2.1,(a.2.2.1,(a.t3.1,(a.t4.1,(a.t5.1,(a.t6.1,(a.t7.1,(a.t8.1,(a.t9.1,(a.t10.1,((),(a.t11.1,(a.t12.1,(a.t13.1,(a.t14.1,(a.t15.1,(a.t16.1,((),((),((),())))))))))))))))))))),(w3 a.t17)))
 o:=fun Z a r K=>K (.Rc []) ⟨[.fb [.lit zb a.2.1,.int .i64 a.2.2.1,.int .i64 a.t3.1,.int .i64 a.t4.1,.lit Na a.t5.1,.lit yb a.t6.1,.lit Na a.t7.1,.lit ja a.t8.1,.lit (.int .i64) a.t9.1,.int .i64 a.t10.1,.all 1,.int .i64 a.t11.1,.int .i64 r.1,.int .i64 r.2.1,.int .i64 r.2.2.1,.int .i64 a.t15.1,.int .i64 a.t16.1,.Wa,.all 2,.all 3],.cells (.int .i64) r.t3,.deep (.int .i64) a.t18.1,.cells (.slice (.int .i64)) a.t19],0⟩
def Ty {X:Type} (a:Px) (K:(ZD)->Option X):Option X:=
 (Ek (a.1,a.2.1,a.2.2.1,a.2.2.2.1,a.2.2.2.2.1,a.2.2.2.2.2.1,a.2.2.2.2.2.2.1,a.2.2.2.2.2.2.2.1,a.2.2.2.2.2.2.2.2.1,a.2.2.2.2.2.2.2.2.2.1,a.2.2.2.2.2.2.2.2.2.2.1,a.2.2.2.2.2.2.2.2.2.2.2.1,a.2.2.2.2.2.2.2.2.2.2.2.2.1,a.2.2.2.2.2.2.2.2.2.2.2.2.2.1,a.2.2.2.2.2.2.2.2.2.2.2.2.2.2.1,a.2.2.2.2.2.2.2.2.2.2.2.2.2.2.2.1,a.2.2.2.2.2.2.2.2.2.2.2.2.2.2.2.2.1,a.2.2.2.2.2.2.2.2.2.2.2.2.2.2.2.2.2.1,a.2.2.2.2.2.2.2.2.2.2.2.2.2.2.2.2.2.2.1,a.2.2.2.2.2.2.2.2.2.2.2.2.2.2.2.2.2.2.2)).bind fun r1=>
 Sum.elim (fun r2=>K (1,a.1.2.2.2.2.2.1,4,a.2.2.2.2.2.2.2.2.2.2.2.2.2.2.2.2.2.1))
 (fun r3=>ask (V.va a.1.2.1 (fa a.2.2.2.2.2.2.2.2.2.2.2.2.2.2.2.2.2.1)) (K (a.2.2.2.2.2.2.2.2.2.2.2.2.1,a.2.2.2.2.2.2.2.2.2.2.2.2.2.1,a.2.2.2.2.2.2.2.2.2.2.2.2.2.2.1,(Tb a.2.2.2.2.2.2.2.2.2.2.2.2.2.2.2.2.2.1 (ga a.1.2.1) (gx (gx a.2.2.2.2.2.2.2.2.2.2.2.2.2.2.2.2.2.2.1 r3.1 []) r3.2 (0:Int)))))) r1
def Mq:=fun a=>Ty a some
def cV:Spec:=jN.sp Mq
noncomputable def L2:Env:=⟨fun k=>[].contains k,Cb [(124,FD)],fun X k s K=>none⟩
theorem dV:OK (3) 89 (jN.sp Mq):=
 fO (d:=2) (env:=L2) (Aa (cc GD cn)) (fn:=Tryz.f89) (mc:=@Ty) (by intros;simp only [Mq,Ty,nn]) (za:=[3])
def HI:FS (Y21) (Unit) where
 sk:=⟨(.cons (.ptr 0 0) (.cons (.int .i64) .nil)),[.fb BG,.cells (.int .i64),.deep (.int .i64),.cells (.slice (.int .i64))],0⟩
 a:=fun u=>(u.1.2.1,u.2.1.1,u.2.1.2.1,u.2.1.2.2.1,u.2.1.t3.1,u.2.1.t4.1,u.2.1.t5.1,u.2.1.t6.1,u.2.1.t7.1,u.2.1.t8.1,u.2.1.t9.1,u.2.1.t11.1,u.2.1.t12.1,u.2.1.t13.1,u.2.1.t14.1,u.2.1.t15.1,u.2.1.t16.1,u.2.2.1,u.t3.1,u.t4.1)
 n:=fun a=>(((),(a.1,())),((a.2.1,(a.2.2.1,(a.t3.1,(a.t4.1,(a.t5.1,(a.t6.1,(a.t7.1,(a.t8.1,(a.t9.1,(a.t10.1,((),(a.t11.1,(a.t12.1,(a.t13.1,(a.t14.1,(a.t15.1,(a.t16.1,((),((),((),())))))))))))))))))))),(w3 a.t17)))
 o:=fun Z a r K=>K (.Rc []) ⟨[.fb [.lit zb a.2.1,.int .i64 a.2.2.1,.int .i64 a.t3.1,.int .i64 a.t4.1,.lit Na a.t5.1,.lit yb a.t6.1,.lit Na a.t7.1,.lit ja a.t8.1,.lit (.int .i64) a.t9.1,.int .i64 a.t10.1,.all 1,.int .i64 a.t11.1,.int .i64 a.1,.int .i64 a.t13.1,.int .i64 a.t14.1,.int .i64 a.t15.1,.int .i64 a.t16.1,.Wa,.all 2,.all 3],.cells (.int .i64) a.t17.1,.deep (.int .i64) a.t18.1,.cells (.slice (.int .i64)) a.t19],0⟩
def SA {X:Type} (a:Y21) (K:Unit->Option X):Option X:=
 K ()
def RA:=fun a=>SA a some
def Aw:Spec:=HI.sp RA
noncomputable def jY:Env:=⟨fun k=>[].contains k,Cb [],fun X k s K=>none⟩
theorem Bw:OK (1) 125 (HI.sp RA):=
 fO (d:=0) (env:=jY) (Aa cn) (fn:=Tryz.f125) (mc:=@SA) (by intros;simp only [RA,SA,nn])
def iN:FS (Px) (Y14) where
 sk:=⟨(.cons (.ptr 0 0) (.cons (.agg Wc) .nil)),[.fb BG,.cells (.int .i64),.deep (.int .i64),.cells (.slice (.int .i64))],0⟩
 a:=fun u=>((q8 u.1.2.1),u.2.1.1,u.2.1.2.1,u.2.1.2.2.1,u.2.1.t3.1,u.2.1.t4.1,u.2.1.t5.1,u.2.1.t6.1,u.2.1.t7.1,u.2.1.t8.1,u.2.1.t9.1,u.2.1.t11.1,u.2.1.t12.1,u.2.1.t13.1,u.2.1.t14.1,u.2.1.t15.1,u.2.1.t16.1,u.2.2.1,u.t3.1,u.t4.1)
 n:=fun a=>(((),((w8 a.1),())),((a.2.1,(a.2.2.1,(a.t3.1,(a.t4.1,(a.t5.1,(a.t6.1,(a.t7.1,(a.t8.1,(a.t9.1,(a.t10.1,((),(a.t11.1,(a.t12.1,(a.t13.1,(a.t14.1,(a.t15.1,(a.t16.1,((),((),((),())))))))))))))))))))),(w3 a.t17)))
 o:=fun Z a r K=>K (.Rc []) ⟨[.fb [.lit zb a.2.1,.int .i64 a.2.2.1,.int .i64 a.t3.1,.int .i64 a.t4.1,.lit Na a.t5.1,.lit yb a.t6.1,.lit Na a.t7.1,.lit ja a.t8.1,.lit (.int .i64) a.t9.1,.int .i64 a.t10.1,.all 1,.int .i64 a.t11.1,.int .i64 r.1,.int .i64 a.t13.1,.int .i64 a.t14.1,.int .i64 a.t15.1,.int .i64 r.2.1,.Wa,.all 2,.all 3],.cells (.int .i64) r.2.2,.deep (.int .i64) a.t18.1,.cells (.slice (.int .i64)) a.t19],0⟩
def Sy {X:Type} (a:Px) (K:(Y14)->Option X):Option X:=
 cond (decide (a.2.2.2.2.2.2.2.2.2.2.2.2.2.2.2.2.1=(nt (fa a.2.2.2.2.2.2.2.2.2.1))))
 (K (2,a.2.2.2.2.2.2.2.2.2.2.2.2.2.2.2.2.1,a.2.2.2.2.2.2.2.2.2.2.2.2.2.2.2.2.2.1))
 (ask (V.va a.2.2.2.2.2.2.2.2.2.2.2.2.2.2.2.2.1 (fa a.2.2.2.2.2.2.2.2.2.1)) (ask (V.va a.1.2.2.1 (fa a.2.2.2.2.2.1)) (cond (decide ((gx a.2.2.2.2.2.2.2.2.2.1 (ga a.2.2.2.2.2.2.2.2.2.2.2.2.2.2.2.2.1) (0:Int))<(gx a.2.2.2.2.2.1 (ga a.1.2.2.1) Bb).2.2.1))
 (K (5,(Ga (a.2.2.2.2.2.2.2.2.2.2.2.2.2.2.2.2.1+(1:Int))),a.2.2.2.2.2.2.2.2.2.2.2.2.2.2.2.2.2.1))
 (cond (decide ((gx a.2.2.2.2.2.1 (ga a.1.2.2.1) Bb).2.2.2<(gx a.2.2.2.2.2.2.2.2.2.1 (ga a.2.2.2.2.2.2.2.2.2.2.2.2.2.2.2.2.1) (0:Int))))
 (K (5,(Ga (a.2.2.2.2.2.2.2.2.2.2.2.2.2.2.2.2.1+(1:Int))),a.2.2.2.2.2.2.2.2.2.2.2.2.2.2.2.2.2.1))
 (ask (V.va a.1.2.1 (fa a.2.2.2.2.2.2.2.2.2.2.2.2.2.2.2.2.2.1)) (K (a.2.2.2.2.2.2.2.2.2.2.2.2.1,(Ga (a.2.2.2.2.2.2.2.2.2.2.2.2.2.2.2.2.1+(1:Int))),(Tb a.2.2.2.2.2.2.2.2.2.2.2.2.2.2.2.2.2.1 (ga a.1.2.1) (gx a.2.2.2.2.2.2.2.2.2.1 (ga a.2.2.2.2.2.2.2.2.2.2.2.2.2.2.2.2.1) (0:Int))))))))))
def Lq:=fun a=>Sy a some
def RU:Spec:=iN.sp Lq
noncomputable def D2:Env:=⟨fun k=>[].contains k,Cb [(125,Aw)],fun X k s K=>none⟩
theorem SU:OK (2) 90 (iN.sp Lq):=
 fO (d:=1) (env:=D2) (Aa (cc Bw cn)) (fn:=Tryz.f90) (mc:=@Sy) (by intros;simp only [Lq,Sy,nn]) (za:=[3,5])
def gN:FS (Px) (ZD) where
 sk:=⟨(.cons (.ptr 0 0) (.cons (.agg Wc) .nil)),[.fb BG,.cells (.int .i64),.deep (.int .i64),.cells (.slice (.int .i64))],0⟩
 a:=fun u=>((q8 u.1.2.1),u.2.1.1,u.2.1.2.1,u.2.1.2.2.1,u.2.1.t3.1,u.2.1.t4.1,u.2.1.t5.1,u.2.1.t6.1,u.2.1.t7.1,u.2.1.t8.1,u.2.1.t9.1,u.2.1.t11.1,u.2.1.t12.1,u.2.1.t13.1,u.2.1.t14.1,u.2.1.t15.1,u.2.1.t16.1,u.2.2.1,u.t3.1,u.t4.1)
 n:=fun a=>(((),((w8 a.1),())),((a.2.1,(a.2.2.1,(a.t3.1,(a.t4.1,(a.t5.1,(a.t6.1,(a.t7.1,(a.t8.1,(a.t9.1,(a.t10.1,((),(a.t11.1,(a.t12.1,(a.t13.1,(a.t14.1,(a.t15.1,(a.t16.1,((),((),((),())))))))))))))))))))),(w3 a.t17)))
 o:=fun Z a r K=>K (.Rc []) ⟨[.fb [.lit zb a.2.1,.int .i64 a.2.2.1,.int .i64 a.t3.1,.int .i64 a.t4.1,.lit Na a.t5.1,.lit yb a.t6.1,.lit Na a.t7.1,.lit ja a.t8.1,.lit (.int .i64) a.t9.1,.int .i64 a.t10.1,.all 1,.int .i64 a.t11.1,.int .i64 r.1,.int .i64 r.2.1,.int .i64 r.2.2.1,.int .i64 a.t15.1,.int .i64 a.t16.1,.Wa,.all 2,.all 3],.cells (.int .i64) r.t3,.deep (.int .i64) a.t18.1,.cells (.slice (.int .i64)) a.t19],0⟩
def Ry {X:Type} (a:Px) (K:(ZD)->Option X):Option X:=
 ask (V.va a.1.2.2.1 (fa a.2.2.2.2.2.2.2.2.2.2.2.2.2.2.2.2.2.1)) (ask (V.va a.1.2.1 (fa a.2.2.2.2.2.2.1)) ((Xk ((gx a.2.2.2.2.2.2.2.2.2.2.2.2.2.2.2.2.2.1 (ga a.1.2.2.1) (0:Int)),(gx a.2.2.2.2.2.2.1 (ga a.1.2.1) Xc).2.1)).bind fun r1=>
 cond (!r1)
 (K (1,a.1.2.2.2.2.2.1,1,a.2.2.2.2.2.2.2.2.2.2.2.2.2.2.2.2.2.1))
 (ask (V.va a.1.2.1 (fa a.2.2.2.2.2.2.2.2.2.2.2.2.2.2.2.2.2.1)) (K (a.2.2.2.2.2.2.2.2.2.2.2.2.1,a.2.2.2.2.2.2.2.2.2.2.2.2.2.1,a.2.2.2.2.2.2.2.2.2.2.2.2.2.2.1,(Tb a.2.2.2.2.2.2.2.2.2.2.2.2.2.2.2.2.2.1 (ga a.1.2.1) (gx a.2.2.2.2.2.2.2.2.2.2.2.2.2.2.2.2.2.1 (ga a.1.2.2.1) (0:Int))))))))
def Kq:=fun a=>Ry a some
def OU:Spec:=gN.sp Kq
noncomputable def C2:Env:=⟨fun k=>[].contains k,Cb [(77,Bn),(78,cg)],fun X k s K=>none⟩
theorem PU:OK (2) 91 (gN.sp Kq):=
 fO (d:=1) (env:=C2) (Aa (cc Cn (cc fg cn))) (fn:=Tryz.f91) (mc:=@Ry) (by intros;simp only [Kq,Ry,nn]) (za:=[3])
def eN:FS (Px) (Y15) where
 sk:=⟨(.cons (.ptr 0 0) (.cons (.agg Wc) .nil)),[.fb BG,.cells (.int .i64),.deep (.int .i64),.cells (.slice (.int .i64))],0⟩
 a:=fun u=>((q8 u.1.2.1),u.2.1.1,u.2.1.2.1,u.2.1.2.2.1,u.2.1.t3.1,u.2.1.t4.1,u.2.1.t5.1,u.2.1.t6.1,u.2.1.t7.1,u.2.1.t8.1,u.2.1.t9.1,u.2.1.t11.1,u.2.1.t12.1,u.2.1.t13.1,u.2.1.t14.1,u.2.1.t15.1,u.2.1.t16.1,u.2.2.1,u.t3.1,u.t4.1)
 n:=fun a=>(((),((w8 a.1),())),((a.2.1,(a.2.2.1,(a.t3.1,(a.t4.1,(a.t5.1,(a.t6.1,(a.t7.1,(a.t8.1,(a.t9.1,(a.t10.1,((),(a.t11.1,(a.t12.1,(a.t13.1,(a.t14.1,(a.t15.1,(a.t16.1,((),((),((),())))))))))))))))))))),(w3 a.t17)))
 o:=fun Z a r K=>K (.Rc []) ⟨[.fb [.lit zb a.2.1,.int .i64 a.2.2.1,.int .i64 a.t3.1,.int .i64 a.t4.1,.lit Na a.t5.1,.lit yb a.t6.1,.lit Na a.t7.1,.lit ja a.t8.1,.lit (.int .i64) a.t9.1,.int .i64 a.t10.1,.all 1,.int .i64 a.t11.1,.int .i64 r.1,.int .i64 r.2.1,.int .i64 r.2.2.1,.int .i64 a.t15.1,.int .i64 a.t16.1,.Wa,.all 2,.all 3],.cells (.int .i64) a.t17.1,.deep (.int .i64) r.t3,.cells (.slice (.int .i64)) a.t19],0⟩
def Qy {X:Type} (a:Px) (K:(Y15)->Option X):Option X:=
 (Ek (a.1,a.2.1,a.2.2.1,a.2.2.2.1,a.2.2.2.2.1,a.2.2.2.2.2.1,a.2.2.2.2.2.2.1,a.2.2.2.2.2.2.2.1,a.2.2.2.2.2.2.2.2.1,a.2.2.2.2.2.2.2.2.2.1,a.2.2.2.2.2.2.2.2.2.2.1,a.2.2.2.2.2.2.2.2.2.2.2.1,a.2.2.2.2.2.2.2.2.2.2.2.2.1,a.2.2.2.2.2.2.2.2.2.2.2.2.2.1,a.2.2.2.2.2.2.2.2.2.2.2.2.2.2.1,a.2.2.2.2.2.2.2.2.2.2.2.2.2.2.2.1,a.2.2.2.2.2.2.2.2.2.2.2.2.2.2.2.2.1,a.2.2.2.2.2.2.2.2.2.2.2.2.2.2.2.2.2.1,a.2.2.2.2.2.2.2.2.2.2.2.2.2.2.2.2.2.2.1,a.2.2.2.2.2.2.2.2.2.2.2.2.2.2.2.2.2.2.2)).bind fun r1=>
 Sum.elim (fun r2=>K (1,a.1.2.2.2.2.2.1,4,a.2.2.2.2.2.2.2.2.2.2.2.2.2.2.2.2.2.2.1))
 (fun r3=>ask (V.va a.1.2.1 (fa a.2.2.2.2.2.2.2.2.2.2.2.2.2.2.2.2.2.1)) (ask (V.va a.1.2.2.1 (fa a.2.2.2.2.2.2.2.1)) ((Xk ((gx a.2.2.2.2.2.2.2.2.2.2.2.2.2.2.2.2.2.1 (ga a.1.2.1) (0:Int)),(gx a.2.2.2.2.2.2.2.1 (ga a.1.2.2.1) Bb).2.1)).bind fun r4=>
 cond (!r4)
 (K (1,a.1.2.2.2.2.2.1,1,a.2.2.2.2.2.2.2.2.2.2.2.2.2.2.2.2.2.2.1))
 (K (a.2.2.2.2.2.2.2.2.2.2.2.2.1,a.2.2.2.2.2.2.2.2.2.2.2.2.2.1,a.2.2.2.2.2.2.2.2.2.2.2.2.2.2.1,(Tb a.2.2.2.2.2.2.2.2.2.2.2.2.2.2.2.2.2.2.1 r3.1 (Tb (gx a.2.2.2.2.2.2.2.2.2.2.2.2.2.2.2.2.2.2.1 r3.1 []) r3.2 (gx a.2.2.2.2.2.2.2.2.2.2.2.2.2.2.2.2.2.1 (ga a.1.2.1) (0:Int))))))))) r1
def Jq:=fun a=>Qy a some
def LU:Spec:=eN.sp Jq
noncomputable def B2:Env:=⟨fun k=>[].contains k,Cb [(124,FD),(77,Bn),(78,cg)],fun X k s K=>none⟩
theorem MU:OK (3) 92 (eN.sp Jq):=
 fO (d:=2) (env:=B2) (Aa (cc GD (cc Cn (cc fg cn)))) (fn:=Tryz.f92) (mc:=@Qy) (by intros;simp only [Jq,Qy,nn]) (za:=[3])
def dN:FS (Px) (Int) where
 sk:=⟨(.cons (.ptr 0 0) (.cons (.agg Wc) .nil)),[.fb BG,.cells (.int .i64),.deep (.int .i64),.cells (.slice (.int .i64))],0⟩
 a:=fun u=>((q8 u.1.2.1),u.2.1.1,u.2.1.2.1,u.2.1.2.2.1,u.2.1.t3.1,u.2.1.t4.1,u.2.1.t5.1,u.2.1.t6.1,u.2.1.t7.1,u.2.1.t8.1,u.2.1.t9.1,u.2.1.t11.1,u.2.1.t12.1,u.2.1.t13.1,u.2.1.t14.1,u.2.1.t15.1,u.2.1.t16.1,u.2.2.1,u.t3.1,u.t4.1)
 n:=fun a=>(((),((w8 a.1),())),((a.2.1,(a.2.2.1,(a.t3.1,(a.t4.1,(a.t5.1,(a.t6.1,(a.t7.1,(a.t8.1,(a.t9.1,(a.t10.1,((),(a.t11.1,(a.t12.1,(a.t13.1,(a.t14.1,(a.t15.1,(a.t16.1,((),((),((),())))))))))))))))))))),(w3 a.t17)))
 o:=fun Z a r K=>K (.Rc []) ⟨[.fb [.lit zb a.2.1,.int .i64 a.2.2.1,.int .i64 a.t3.1,.int .i64 a.t4.1,.lit Na a.t5.1,.lit yb a.t6.1,.lit Na a.t7.1,.lit ja a.t8.1,.lit (.int .i64) a.t9.1,.int .i64 a.t10.1,.all 1,.int .i64 r,.int .i64 a.t12.1,.int .i64 a.t13.1,.int .i64 a.t14.1,.int .i64 a.t15.1,.int .i64 a.t16.1,.Wa,.all 2,.all 3],.cells (.int .i64) a.t17.1,.deep (.int .i64) a.t18.1,.cells (.slice (.int .i64)) a.t19],0⟩
def Py {X:Type} (a:Px) (K:Int->Option X):Option X:=
 ask (V.va a.1.2.2.1 (fa a.2.2.2.2.2.2.2.2.2.2.2.2.2.2.2.2.2.1)) (ask (V.va a.1.2.2.2.1 (fa a.2.2.2.2.2.2.2.2.2.2.2.2.2.2.2.2.2.1)) (cond (decide ((Ga (a.1.2.2.2.2.1-(14:Int)))=(0:Int)))
 (cond (!(decide ((gx a.2.2.2.2.2.2.2.2.2.2.2.2.2.2.2.2.2.1 (ga a.1.2.2.1) (0:Int))=(gx a.2.2.2.2.2.2.2.2.2.2.2.2.2.2.2.2.2.1 (ga a.1.2.2.2.1) (0:Int)))))
 (K a.1.2.2.2.2.2.2.2)
 (K a.2.2.2.2.2.2.2.2.2.2.2.1))
 (cond (decide ((Ga (a.1.2.2.2.2.1-(14:Int)))=(1:Int)))
 (cond (!(!(decide ((gx a.2.2.2.2.2.2.2.2.2.2.2.2.2.2.2.2.2.1 (ga a.1.2.2.1) (0:Int))=(gx a.2.2.2.2.2.2.2.2.2.2.2.2.2.2.2.2.2.1 (ga a.1.2.2.2.1) (0:Int))))))
 (K a.1.2.2.2.2.2.2.2)
 (K a.2.2.2.2.2.2.2.2.2.2.2.1))
 (cond (decide ((Ga (a.1.2.2.2.2.1-(14:Int)))=(2:Int)))
 (cond (!(decide ((gx a.2.2.2.2.2.2.2.2.2.2.2.2.2.2.2.2.2.1 (ga a.1.2.2.1) (0:Int))<(gx a.2.2.2.2.2.2.2.2.2.2.2.2.2.2.2.2.2.1 (ga a.1.2.2.2.1) (0:Int)))))
 (K a.1.2.2.2.2.2.2.2)
 (K a.2.2.2.2.2.2.2.2.2.2.2.1))
 (cond (decide ((Ga (a.1.2.2.2.2.1-(14:Int)))=(3:Int)))
 (cond (!(decide ((gx a.2.2.2.2.2.2.2.2.2.2.2.2.2.2.2.2.2.1 (ga a.1.2.2.1) (0:Int))<=(gx a.2.2.2.2.2.2.2.2.2.2.2.2.2.2.2.2.2.1 (ga a.1.2.2.2.1) (0:Int)))))
 (K a.1.2.2.2.2.2.2.2)
 (K a.2.2.2.2.2.2.2.2.2.2.2.1))
 (cond (decide ((Ga (a.1.2.2.2.2.1-(14:Int)))=(4:Int)))
 (cond (!(decide ((gx a.2.2.2.2.2.2.2.2.2.2.2.2.2.2.2.2.2.1 (ga a.1.2.2.2.1) (0:Int))<(gx a.2.2.2.2.2.2.2.2.2.2.2.2.2.2.2.2.2.1 (ga a.1.2.2.1) (0:Int)))))
 (K a.1.2.2.2.2.2.2.2)
 (K a.2.2.2.2.2.2.2.2.2.2.2.1))
 (cond (decide ((Ga (a.1.2.2.2.2.1-(14:Int)))=(5:Int)))
 (cond (!(decide ((gx a.2.2.2.2.2.2.2.2.2.2.2.2.2.2.2.2.2.1 (ga a.1.2.2.2.1) (0:Int))<=(gx a.2.2.2.2.2.2.2.2.2.2.2.2.2.2.2.2.2.1 (ga a.1.2.2.1) (0:Int)))))
 (K a.1.2.2.2.2.2.2.2)
 (K a.2.2.2.2.2.2.2.2.2.2.2.1))
 (none))))))))
def Iq:=fun a=>Py a some
def IU:Spec:=dN.sp Iq
noncomputable def Z1:Env:=⟨fun k=>[].contains k,Cb [],fun X k s K=>none⟩
theorem JU:OK (1) 93 (dN.sp Iq):=
 fO (d:=0) (env:=Z1) (Aa cn) (fn:=Tryz.f93) (mc:=@Py) (by intros;simp only [Iq,Py,nn]) (za:=[3,6])
def mN:FS (Px) (Unit) where
 sk:=⟨(.cons (.ptr 0 0) (.cons (.agg Wc) .nil)),[.fb BG,.cells (.int .i64),.deep (.int .i64),.cells (.slice (.int .i64))],0⟩
 a:=fun u=>((q8 u.1.2.1),u.2.1.1,u.2.1.2.1,u.2.1.2.2.1,u.2.1.t3.1,u.2.1.t4.1,u.2.1.t5.1,u.2.1.t6.1,u.2.1.t7.1,u.2.1.t8.1,u.2.1.t9.1,u.2.1.t11.1,u.2.1.t12.1,u.2.1.t13.1,u.2.1.t14.1,u.2.1.t15.1,u.2.1.t16.1,u.2.2.1,u.t3.1,u.t4.1)
 n:=fun a=>(((),((w8 a.1),())),((a.2.1,(a.2.2.1,(a.t3.1,(a.t4.1,(a.t5.1,(a.t6.1,(a.t7.1,(a.t8.1,(a.t9.1,(a.t10.1,((),(a.t11.1,(a.t12.1,(a.t13.1,(a.t14.1,(a.t15.1,(a.t16.1,((),((),((),())))))))))))))))))))),(w3 a.t17)))
 o:=fun Z a r K=>K (.Rc []) ⟨[.fb [.lit zb a.2.1,.int .i64 a.2.2.1,.int .i64 a.t3.1,.int .i64 a.t4.1,.lit Na a.t5.1,.lit yb a.t6.1,.lit Na a.t7.1,.lit ja a.t8.1,.lit (.int .i64) a.t9.1,.int .i64 a.t10.1,.all 1,.int .i64 a.t11.1,.int .i64 a.t12.1,.int .i64 a.t13.1,.int .i64 a.t14.1,.int .i64 a.t15.1,.int .i64 a.t16.1,.Wa,.all 2,.all 3],.cells (.int .i64) a.t17.1,.deep (.int .i64) a.t18.1,.cells (.slice (.int .i64)) a.t19],0⟩
def jF {X:Type} (a:Px) (K:Unit->Option X):Option X:=
 K ()
def iF:=fun a=>jF a some
def BV:Spec:=mN.sp iF
noncomputable def O2:Env:=⟨fun k=>[].contains k,Cb [],fun X k s K=>none⟩
theorem CV:OK (1) 79 (mN.sp iF):=
 fO (d:=0) (env:=O2) (Aa cn) (fn:=Tryz.f79) (mc:=@jF) (by intros;simp only [iF,jF,nn]) (za:=[3])
def ZM:FS (Y22) (Bool×Int×Int) where
 sk:=⟨(.cons (.ptr 0 0) .nil),[.fb BG,.cells (.int .i64),.deep (.int .i64),.cells (.slice (.int .i64))],0⟩
 a:=fun u=>(u.2.1.1,u.2.1.2.1,u.2.1.2.2.1,u.2.1.t3.1,u.2.1.t4.1,u.2.1.t5.1,u.2.1.t6.1,u.2.1.t7.1,u.2.1.t8.1,u.2.1.t9.1,u.2.1.t11.1,u.2.1.t12.1,u.2.1.t13.1,u.2.1.t14.1,u.2.1.t15.1,u.2.1.t16.1,u.2.2.1,u.t3.1,u.t4.1)
 n:=fun a=>(((),()),((a.1,(a.2.1,(a.2.2.1,(a.t3.1,(a.t4.1,(a.t5.1,(a.t6.1,(a.t7.1,(a.t8.1,(a.t9.1,((),(a.t10.1,(a.t11.1,(a.t12.1,(a.t13.1,(a.t14.1,(a.t15.1,((),((),((),())))))))))))))))))))),(w3 a.t16)))
 o:=fun Z a r K=>K (.bool r.1) ⟨[.fb [.lit zb a.1,.int .i64 a.2.1,.int .i64 a.2.2.1,.int .i64 a.t3.1,.lit Na a.t4.1,.lit yb a.t5.1,.lit Na a.t6.1,.lit ja a.t7.1,.lit (.int .i64) a.t8.1,.int .i64 r.2.1,.all 1,.int .i64 a.t10.1,.int .i64 r.2.2,.int .i64 a.t12.1,.int .i64 a.t13.1,.int .i64 a.t14.1,.int .i64 a.t15.1,.Wa,.all 2,.all 3],.cells (.int .i64) a.t16.1,.deep (.int .i64) a.t17.1,.cells (.slice (.int .i64)) a.t18],0⟩
def My {X:Type} (a:Y22) (K:(Bool×Int×Int)->Option X):Option X:=
 cond (decide (a.2.2.2.2.2.2.2.2.2.1=(0:Int)))
 (K (false,a.2.2.2.2.2.2.2.2.2.1,4))
 (K (true,(Ga (a.2.2.2.2.2.2.2.2.2.1-(1:Int))),a.2.2.2.2.2.2.2.2.2.2.2.1))
def Uj:=fun a=>My a some
def WH:Spec:=ZM.sp Uj
noncomputable def T1:Env:=⟨fun k=>[].contains k,Cb [(125,Aw)],fun X k s K=>none⟩
theorem XH:OK (2) 97 (ZM.sp Uj):=
 fO (d:=1) (env:=T1) (Aa (cc Bw cn)) (fn:=Tryz.f97) (mc:=@My) (by intros;simp only [Uj,My,nn])
def CN:FS (Y22) ((List Int)) where
 sk:=⟨(.cons (.ptr 0 0) .nil),[.fb BG,.cells (.int .i64),.deep (.int .i64),.cells (.slice (.int .i64))],4⟩
 a:=fun u=>(u.2.1.1,u.2.1.2.1,u.2.1.2.2.1,u.2.1.t3.1,u.2.1.t4.1,u.2.1.t5.1,u.2.1.t6.1,u.2.1.t7.1,u.2.1.t8.1,u.2.1.t9.1,u.2.1.t11.1,u.2.1.t12.1,u.2.1.t13.1,u.2.1.t14.1,u.2.1.t15.1,u.2.1.t16.1,u.2.2.1,u.t3.1,u.t4.1)
 n:=fun a=>(((),()),((a.1,(a.2.1,(a.2.2.1,(a.t3.1,(a.t4.1,(a.t5.1,(a.t6.1,(a.t7.1,(a.t8.1,(a.t9.1,((),(a.t10.1,(a.t11.1,(a.t12.1,(a.t13.1,(a.t14.1,(a.t15.1,((),((),((),())))))))))))))))))))),(w3 a.t16)))
 o:=fun Z a r K=>K (.lit (.int .i64) r) ⟨[.fb [.lit zb a.1,.int .i64 a.2.1,.int .i64 a.2.2.1,.int .i64 a.t3.1,.lit Na a.t4.1,.lit yb a.t5.1,.lit Na a.t6.1,.lit ja a.t7.1,.lit (.int .i64) a.t8.1,.int .i64 a.t9.1,.all 1,.int .i64 a.t10.1,.int .i64 a.t11.1,.int .i64 a.t12.1,.int .i64 a.t13.1,.int .i64 a.t14.1,.int .i64 a.t15.1,.Wa,.all 2,.all 3],.cells (.int .i64) a.t16.1,.deep (.int .i64) a.t17.1,.cells (.slice (.int .i64)) a.t18],4⟩
def ez {X:Type} (a:Y22) (K:(List Int)->Option X):Option X:=
 ask (decide (0<=(0:Int))&&decide ((0:Int)<=(nt (fa a.2.2.2.2.2.1)))&&decide ((nt (fa a.2.2.2.2.2.1))<=(nt (fa a.2.2.2.2.2.2.2.2.2.2.2.2.2.2.2.2.1)))) (ask (decide ((fa (Vi 0 (ga (nt (fa a.2.2.2.2.2.1))-0) a.2.2.2.2.2.2.2.2.2.2.2.2.2.2.2.2.1)) * 8<=70368744177664)&&decide ((fa (Vi 0 (ga (nt (fa a.2.2.2.2.2.1))-0) a.2.2.2.2.2.2.2.2.2.2.2.2.2.2.2.2.1))<9223372036854775808)) (K (Vi 0 (ga (nt (fa a.2.2.2.2.2.1))-0) a.2.2.2.2.2.2.2.2.2.2.2.2.2.2.2.2.1)))
def Zk:=fun a=>ez a some
def LW:Spec:=CN.sp Zk
noncomputable def G3:Env:=⟨fun k=>[].contains k,Cb [],fun X k s K=>none⟩
theorem MW:OK (1) 57 (CN.sp Zk):=
 fO (d:=0) (env:=G3) (Aa cn) (fn:=Tryz.f57) (mc:=@ez) (by intros;simp only [Zk,ez,nn]) (sh:=(.lit (.int .i64))) (fz:=true)
end
end Go.U
end
