/- The functions of the program as Lean functions, and that the evaluator says so. -/
import Derived.Test.YtjenflkegbmkkaaGreatDoorC4
set_option linter.unusedVariables false
set_option linter.unusedSimpArgs false
set_option linter.unusedSectionVars false
section
set_option maxRecDepth 100000
namespace Go.U
open Go Go.Proofs
noncomputable section
variable {C:V.Callee}
def f86v1_s:FS (Y18) (Y12) where
 sk:=⟨(.cons (.ptr 0 0) (.cons (.agg kInstr) .nil)),[.opn kr3,.cells (.int .i64),.deep (.int .i64),.cells (.slice (.int .i64))],0⟩
 a:=fun u=>((q8 u.1.2.1),u.2.1.1,u.2.1.2.1,u.2.1.2.2.1,u.2.1.t3.1,u.2.1.t4.1,u.2.1.t5.1,u.2.1.t6.1,u.2.1.t7.1,u.2.1.t8.1,u.2.1.t9.1,u.2.1.t11.1,u.2.1.t12.1,u.2.1.t13.1,u.2.1.t14.1,u.2.1.t15.1,u.2.1.t16.1,u.2.2.1,u.t3.1,u.t4.1)
 n:=fun a=>(((),((w8 a.1),())),((a.2.1,(a.2.2.1,(a.t3.1,(a.t4.1,(a.t5.1,(a.t6.1,(a.t7.1,(a.t8.1,(a.t9.1,(a.t10.1,((),(a.t11.1,(a.t12.1,(a.t13.1,(a.t14.1,(a.t15.1,(a.t16.1,((),((),((),())))))))))))))))))))),(w3 a.t17)))
 o:=fun Z a r K=>K (.tup []) ⟨[.opn [.lit cInstr a.2.1,.int .i64 a.2.2.1,.int .i64 a.t3.1,.int .i64 a.t4.1,.lit cInput a.t5.1,.lit cScalar a.t6.1,.lit cInput a.t7.1,.lit cAlarm a.t8.1,.lit (.int .i64) a.t9.1,.int .i64 a.t10.1,.all 1,.int .i64 a.t11.1,.int .i64 r.1,.int .i64 r.2.1,.int .i64 r.2.2.1,.int .i64 a.t15.1,.int .i64 a.t16.1,.nils,.all 2,.all 3],.cells (.int .i64) r.t3,.deep (.int .i64) a.t18.1,.cells (.slice (.int .i64)) a.t19],0⟩
def f86v1_c {X:Type} (a:Y18) (K:(Y12)->Option X):Option X:=
 ask (V.inRange a.1.2.2.1 (List.length a.2.2.2.2.2.2.2.2.2.2.2.2.2.2.2.2.2.1)) (ask (V.inRange a.1.2.2.2.1 (List.length a.2.2.2.2.2.2.2.2.2.2.2.2.2.2.2.2.2.1)) (cond (decide ((gx a.2.2.2.2.2.2.2.2.2.2.2.2.2.2.2.2.2.1 (Int.toNat a.1.2.2.2.1) (0:Int))=(0:Int)))
 (K (1,a.1.2.2.2.2.2.1,2,a.2.2.2.2.2.2.2.2.2.2.2.2.2.2.2.2.2.1))
 (cond (decide ((gx a.2.2.2.2.2.2.2.2.2.2.2.2.2.2.2.2.2.1 (Int.toNat a.1.2.2.2.1) (0:Int))=(0:Int)))
 (none)
 (cond (decide (a.1.1=(7:Int)))
 (cond (decide ((gx a.2.2.2.2.2.2.2.2.2.2.2.2.2.2.2.2.2.1 (Int.toNat a.1.2.2.1) (0:Int))=(-2147483648:Int)))
 (cond (decide ((gx a.2.2.2.2.2.2.2.2.2.2.2.2.2.2.2.2.2.1 (Int.toNat a.1.2.2.2.1) (0:Int))=(-1:Int)))
 (K (1,a.1.2.2.2.2.2.1,3,a.2.2.2.2.2.2.2.2.2.2.2.2.2.2.2.2.2.1))
 (cond (decide ((gx a.2.2.2.2.2.2.2.2.2.2.2.2.2.2.2.2.2.1 (Int.toNat a.1.2.2.2.1) (0:Int))=(0:Int)))
 (none)
 (ask (V.inRange a.1.2.1 (List.length a.2.2.2.2.2.2.2.2.2.2.2.2.2.2.2.2.2.1)) (K (a.2.2.2.2.2.2.2.2.2.2.2.2.1,a.2.2.2.2.2.2.2.2.2.2.2.2.2.1,a.2.2.2.2.2.2.2.2.2.2.2.2.2.2.1,(List.set a.2.2.2.2.2.2.2.2.2.2.2.2.2.2.2.2.2.1 (Int.toNat a.1.2.1) (wi64 (Int.tdiv (gx a.2.2.2.2.2.2.2.2.2.2.2.2.2.2.2.2.2.1 (Int.toNat a.1.2.2.1) (0:Int)) (gx a.2.2.2.2.2.2.2.2.2.2.2.2.2.2.2.2.2.1 (Int.toNat a.1.2.2.2.1) (0:Int))))))))))
 (cond (decide ((gx a.2.2.2.2.2.2.2.2.2.2.2.2.2.2.2.2.2.1 (Int.toNat a.1.2.2.2.1) (0:Int))=(0:Int)))
 (none)
 (ask (V.inRange a.1.2.1 (List.length a.2.2.2.2.2.2.2.2.2.2.2.2.2.2.2.2.2.1)) (K (a.2.2.2.2.2.2.2.2.2.2.2.2.1,a.2.2.2.2.2.2.2.2.2.2.2.2.2.1,a.2.2.2.2.2.2.2.2.2.2.2.2.2.2.1,(List.set a.2.2.2.2.2.2.2.2.2.2.2.2.2.2.2.2.2.1 (Int.toNat a.1.2.1) (wi64 (Int.tdiv (gx a.2.2.2.2.2.2.2.2.2.2.2.2.2.2.2.2.2.1 (Int.toNat a.1.2.2.1) (0:Int)) (gx a.2.2.2.2.2.2.2.2.2.2.2.2.2.2.2.2.2.1 (Int.toNat a.1.2.2.2.1) (0:Int))))))))))
 (cond (decide (a.1.1=(8:Int)))
 (ask (V.inRange a.1.2.1 (List.length a.2.2.2.2.2.2.2.2.2.2.2.2.2.2.2.2.2.1)) (K (a.2.2.2.2.2.2.2.2.2.2.2.2.1,a.2.2.2.2.2.2.2.2.2.2.2.2.2.1,a.2.2.2.2.2.2.2.2.2.2.2.2.2.2.1,(List.set a.2.2.2.2.2.2.2.2.2.2.2.2.2.2.2.2.2.1 (Int.toNat a.1.2.1) (Int.tmod (gx a.2.2.2.2.2.2.2.2.2.2.2.2.2.2.2.2.2.1 (Int.toNat a.1.2.2.1) (0:Int)) (gx a.2.2.2.2.2.2.2.2.2.2.2.2.2.2.2.2.2.1 (Int.toNat a.1.2.2.2.1) (0:Int)))))))
 (K (a.2.2.2.2.2.2.2.2.2.2.2.2.1,a.2.2.2.2.2.2.2.2.2.2.2.2.2.1,a.2.2.2.2.2.2.2.2.2.2.2.2.2.2.1,a.2.2.2.2.2.2.2.2.2.2.2.2.2.2.2.2.2.1)))))))
def f86v1_m:=fun a=>f86v1_c a some
def f86v1_sp:Spec:=f86v1_s.sp f86v1_m
noncomputable def f86v1_e:Env:=⟨fun k=>[].contains k,callsL [(78,f78v1_sp)],fun X k s K=>none⟩
theorem f86v1_ok:OK (2) 86 (f86v1_s.sp f86v1_m):=
 fO (d:=1) (env:=f86v1_e) (callsL_sim (cc f78v1_ok cn)) (fn:=Tryz.f86) (mc:=@f86v1_c) (by intros;simp only [f86v1_m,f86v1_c,nn]) (locs:=[3])
def f76v12_s:FS (Y20) (Y12) where
 sk:=⟨(.cons (.ptr 2 0) (.cons (.agg kInstr) (.cons (.ptr 0 0) (.cons (.ptr 1 0) .nil)))),[.opn (.cons (.fn 87 .nil) .nil),.opn (.cons .bool .nil),.opn kr4,.cells (.int .i64),.deep (.int .i64),.cells (.slice (.int .i64))],0⟩
 a:=fun u=>((q8 u.1.2.1),u.2.2.1.1,u.t3.1.1,u.t3.1.2.1,u.t3.1.2.2.1,u.t3.1.t3.1,u.t3.1.t4.1,u.t3.1.t5.1,u.t3.1.t6.1,u.t3.1.t7.1,u.t3.1.t8.1,u.t3.1.t9.1,u.t3.1.t11.1,u.t3.1.t12.1,u.t3.1.t13.1,u.t3.1.t14.1,u.t3.1.t15.1,u.t3.1.t16.1,u.t4.1,u.t5.1,u.t6.1)
 n:=fun a=>(((),((w8 a.1),((),((),())))),(((),()),((a.2.1,()),((a.2.2.1,(a.t3.1,(a.t4.1,(a.t5.1,(a.t6.1,(a.t7.1,(a.t8.1,(a.t9.1,(a.t10.1,(a.t11.1,((),(a.t12.1,(a.t13.1,(a.t14.1,(a.t15.1,(a.t16.1,(a.t17.1,((),((),((),())))))))))))))))))))),(w3 a.t18)))))
 o:=fun Z a r K=>K (.tup []) ⟨[.opn [.fn 87 []],.opn [.bool a.2.1],.opn [.lit cInstr a.2.2.1,.int .i64 a.t3.1,.int .i64 a.t4.1,.int .i64 a.t5.1,.lit cInput a.t6.1,.lit cScalar a.t7.1,.lit cInput a.t8.1,.lit cAlarm a.t9.1,.lit (.int .i64) a.t10.1,.int .i64 a.t11.1,.all 3,.int .i64 a.t12.1,.int .i64 r.1,.int .i64 r.2.1,.int .i64 r.2.2.1,.int .i64 a.t16.1,.int .i64 a.t17.1,.nils,.all 4,.all 5],.cells (.int .i64) r.t3,.deep (.int .i64) a.t19.1,.cells (.slice (.int .i64)) a.t20],0⟩
def f76v12_c {X:Type} (a:Y20) (K:(Y12)->Option X):Option X:=
 ask (V.inRange a.1.2.2.1 (List.length a.2.2.2.2.2.2.2.2.2.2.2.2.2.2.2.2.2.2.1)) (ask (V.inRange a.1.2.2.2.1 (List.length a.2.2.2.2.2.2.2.2.2.2.2.2.2.2.2.2.2.2.1)) (cond a.2.1
 ((f77_m ((if (gx a.2.2.2.2.2.2.2.2.2.2.2.2.2.2.2.2.2.2.1 (Int.toNat a.1.2.2.2.1) (0:Int))<(gx a.2.2.2.2.2.2.2.2.2.2.2.2.2.2.2.2.2.2.1 (Int.toNat a.1.2.2.1) (0:Int)) then (gx a.2.2.2.2.2.2.2.2.2.2.2.2.2.2.2.2.2.2.1 (Int.toNat a.1.2.2.2.1) (0:Int)) else (gx a.2.2.2.2.2.2.2.2.2.2.2.2.2.2.2.2.2.2.1 (Int.toNat a.1.2.2.1) (0:Int))),3)).bind fun r1=>
 cond (!r1)
 (K (1,a.1.2.2.2.2.2.1,1,a.2.2.2.2.2.2.2.2.2.2.2.2.2.2.2.2.2.2.1))
 (ask (V.inRange a.1.2.1 (List.length a.2.2.2.2.2.2.2.2.2.2.2.2.2.2.2.2.2.2.1)) (K (a.2.2.2.2.2.2.2.2.2.2.2.2.2.1,a.2.2.2.2.2.2.2.2.2.2.2.2.2.2.1,a.2.2.2.2.2.2.2.2.2.2.2.2.2.2.2.1,(List.set a.2.2.2.2.2.2.2.2.2.2.2.2.2.2.2.2.2.2.1 (Int.toNat a.1.2.1) (if (gx a.2.2.2.2.2.2.2.2.2.2.2.2.2.2.2.2.2.2.1 (Int.toNat a.1.2.2.2.1) (0:Int))<(gx a.2.2.2.2.2.2.2.2.2.2.2.2.2.2.2.2.2.2.1 (Int.toNat a.1.2.2.1) (0:Int)) then (gx a.2.2.2.2.2.2.2.2.2.2.2.2.2.2.2.2.2.2.1 (Int.toNat a.1.2.2.2.1) (0:Int)) else (gx a.2.2.2.2.2.2.2.2.2.2.2.2.2.2.2.2.2.2.1 (Int.toNat a.1.2.2.1) (0:Int))))))))
 (ask (V.inRange a.1.2.1 (List.length a.2.2.2.2.2.2.2.2.2.2.2.2.2.2.2.2.2.2.1)) (K (a.2.2.2.2.2.2.2.2.2.2.2.2.2.1,a.2.2.2.2.2.2.2.2.2.2.2.2.2.2.1,a.2.2.2.2.2.2.2.2.2.2.2.2.2.2.2.1,(List.set a.2.2.2.2.2.2.2.2.2.2.2.2.2.2.2.2.2.2.1 (Int.toNat a.1.2.1) (if (gx a.2.2.2.2.2.2.2.2.2.2.2.2.2.2.2.2.2.2.1 (Int.toNat a.1.2.2.2.1) (0:Int))<(gx a.2.2.2.2.2.2.2.2.2.2.2.2.2.2.2.2.2.2.1 (Int.toNat a.1.2.2.1) (0:Int)) then (gx a.2.2.2.2.2.2.2.2.2.2.2.2.2.2.2.2.2.2.1 (Int.toNat a.1.2.2.2.1) (0:Int)) else (gx a.2.2.2.2.2.2.2.2.2.2.2.2.2.2.2.2.2.2.1 (Int.toNat a.1.2.2.1) (0:Int)))))))))
def f76v12_m:=fun a=>f76v12_c a some
def f76v12_sp:Spec:=f76v12_s.sp f76v12_m
noncomputable def f76v12_e:Env:=⟨fun k=>[].contains k,callsL [(87,f87_sp),(77,f77_sp),(78,f78v1_sp)],fun X k s K=>none⟩
theorem f76v12_ok:OK (2) 76 (f76v12_s.sp f76v12_m):=
 fO (d:=1) (env:=f76v12_e) (callsL_sim (cc f87_ok (cc f77_ok (cc f78v1_ok cn)))) (fn:=Tryz.f76) (mc:=@f76v12_c) (by intros;simp only [f76v12_m,f76v12_c,nn]) (locs:=[5])
def f76v13_s:FS (Y20) (Y12) where
 sk:=⟨(.cons (.ptr 2 0) (.cons (.agg kInstr) (.cons (.ptr 0 0) (.cons (.ptr 1 0) .nil)))),[.opn (.cons (.fn 88 .nil) .nil),.opn (.cons .bool .nil),.opn kr4,.cells (.int .i64),.deep (.int .i64),.cells (.slice (.int .i64))],0⟩
 a:=fun u=>((q8 u.1.2.1),u.2.2.1.1,u.t3.1.1,u.t3.1.2.1,u.t3.1.2.2.1,u.t3.1.t3.1,u.t3.1.t4.1,u.t3.1.t5.1,u.t3.1.t6.1,u.t3.1.t7.1,u.t3.1.t8.1,u.t3.1.t9.1,u.t3.1.t11.1,u.t3.1.t12.1,u.t3.1.t13.1,u.t3.1.t14.1,u.t3.1.t15.1,u.t3.1.t16.1,u.t4.1,u.t5.1,u.t6.1)
 n:=fun a=>(((),((w8 a.1),((),((),())))),(((),()),((a.2.1,()),((a.2.2.1,(a.t3.1,(a.t4.1,(a.t5.1,(a.t6.1,(a.t7.1,(a.t8.1,(a.t9.1,(a.t10.1,(a.t11.1,((),(a.t12.1,(a.t13.1,(a.t14.1,(a.t15.1,(a.t16.1,(a.t17.1,((),((),((),())))))))))))))))))))),(w3 a.t18)))))
 o:=fun Z a r K=>K (.tup []) ⟨[.opn [.fn 88 []],.opn [.bool a.2.1],.opn [.lit cInstr a.2.2.1,.int .i64 a.t3.1,.int .i64 a.t4.1,.int .i64 a.t5.1,.lit cInput a.t6.1,.lit cScalar a.t7.1,.lit cInput a.t8.1,.lit cAlarm a.t9.1,.lit (.int .i64) a.t10.1,.int .i64 a.t11.1,.all 3,.int .i64 a.t12.1,.int .i64 r.1,.int .i64 r.2.1,.int .i64 r.2.2.1,.int .i64 a.t16.1,.int .i64 a.t17.1,.nils,.all 4,.all 5],.cells (.int .i64) r.t3,.deep (.int .i64) a.t19.1,.cells (.slice (.int .i64)) a.t20],0⟩
def f76v13_c {X:Type} (a:Y20) (K:(Y12)->Option X):Option X:=
 ask (V.inRange a.1.2.2.1 (List.length a.2.2.2.2.2.2.2.2.2.2.2.2.2.2.2.2.2.2.1)) (ask (V.inRange a.1.2.2.2.1 (List.length a.2.2.2.2.2.2.2.2.2.2.2.2.2.2.2.2.2.2.1)) (cond a.2.1
 ((f77_m ((if (gx a.2.2.2.2.2.2.2.2.2.2.2.2.2.2.2.2.2.2.1 (Int.toNat a.1.2.2.2.1) (0:Int))>(gx a.2.2.2.2.2.2.2.2.2.2.2.2.2.2.2.2.2.2.1 (Int.toNat a.1.2.2.1) (0:Int)) then (gx a.2.2.2.2.2.2.2.2.2.2.2.2.2.2.2.2.2.2.1 (Int.toNat a.1.2.2.2.1) (0:Int)) else (gx a.2.2.2.2.2.2.2.2.2.2.2.2.2.2.2.2.2.2.1 (Int.toNat a.1.2.2.1) (0:Int))),3)).bind fun r1=>
 cond (!r1)
 (K (1,a.1.2.2.2.2.2.1,1,a.2.2.2.2.2.2.2.2.2.2.2.2.2.2.2.2.2.2.1))
 (ask (V.inRange a.1.2.1 (List.length a.2.2.2.2.2.2.2.2.2.2.2.2.2.2.2.2.2.2.1)) (K (a.2.2.2.2.2.2.2.2.2.2.2.2.2.1,a.2.2.2.2.2.2.2.2.2.2.2.2.2.2.1,a.2.2.2.2.2.2.2.2.2.2.2.2.2.2.2.1,(List.set a.2.2.2.2.2.2.2.2.2.2.2.2.2.2.2.2.2.2.1 (Int.toNat a.1.2.1) (if (gx a.2.2.2.2.2.2.2.2.2.2.2.2.2.2.2.2.2.2.1 (Int.toNat a.1.2.2.2.1) (0:Int))>(gx a.2.2.2.2.2.2.2.2.2.2.2.2.2.2.2.2.2.2.1 (Int.toNat a.1.2.2.1) (0:Int)) then (gx a.2.2.2.2.2.2.2.2.2.2.2.2.2.2.2.2.2.2.1 (Int.toNat a.1.2.2.2.1) (0:Int)) else (gx a.2.2.2.2.2.2.2.2.2.2.2.2.2.2.2.2.2.2.1 (Int.toNat a.1.2.2.1) (0:Int))))))))
 (ask (V.inRange a.1.2.1 (List.length a.2.2.2.2.2.2.2.2.2.2.2.2.2.2.2.2.2.2.1)) (K (a.2.2.2.2.2.2.2.2.2.2.2.2.2.1,a.2.2.2.2.2.2.2.2.2.2.2.2.2.2.1,a.2.2.2.2.2.2.2.2.2.2.2.2.2.2.2.1,(List.set a.2.2.2.2.2.2.2.2.2.2.2.2.2.2.2.2.2.2.1 (Int.toNat a.1.2.1) (if (gx a.2.2.2.2.2.2.2.2.2.2.2.2.2.2.2.2.2.2.1 (Int.toNat a.1.2.2.2.1) (0:Int))>(gx a.2.2.2.2.2.2.2.2.2.2.2.2.2.2.2.2.2.2.1 (Int.toNat a.1.2.2.1) (0:Int)) then (gx a.2.2.2.2.2.2.2.2.2.2.2.2.2.2.2.2.2.2.1 (Int.toNat a.1.2.2.2.1) (0:Int)) else (gx a.2.2.2.2.2.2.2.2.2.2.2.2.2.2.2.2.2.2.1 (Int.toNat a.1.2.2.1) (0:Int)))))))))
def f76v13_m:=fun a=>f76v13_c a some
def f76v13_sp:Spec:=f76v13_s.sp f76v13_m
noncomputable def f76v13_e:Env:=⟨fun k=>[].contains k,callsL [(88,f88_sp),(77,f77_sp),(78,f78v1_sp)],fun X k s K=>none⟩
theorem f76v13_ok:OK (2) 76 (f76v13_s.sp f76v13_m):=
 fO (d:=1) (env:=f76v13_e) (callsL_sim (cc f88_ok (cc f77_ok (cc f78v1_ok cn)))) (fn:=Tryz.f76) (mc:=@f76v13_c) (by intros;simp only [f76v13_m,f76v13_c,nn]) (locs:=[5])
def f124v1_s:FS (Y18) ((Unit) ⊕ (Nat×Nat)) where
 sk:=⟨(.cons (.ptr 0 0) (.cons (.agg kInstr) .nil)),[.opn kr3,.cells (.int .i64),.deep (.int .i64),.cells (.slice (.int .i64))],0⟩
 a:=fun u=>((q8 u.1.2.1),u.2.1.1,u.2.1.2.1,u.2.1.2.2.1,u.2.1.t3.1,u.2.1.t4.1,u.2.1.t5.1,u.2.1.t6.1,u.2.1.t7.1,u.2.1.t8.1,u.2.1.t9.1,u.2.1.t11.1,u.2.1.t12.1,u.2.1.t13.1,u.2.1.t14.1,u.2.1.t15.1,u.2.1.t16.1,u.2.2.1,u.t3.1,u.t4.1)
 n:=fun a=>(((),((w8 a.1),())),((a.2.1,(a.2.2.1,(a.t3.1,(a.t4.1,(a.t5.1,(a.t6.1,(a.t7.1,(a.t8.1,(a.t9.1,(a.t10.1,((),(a.t11.1,(a.t12.1,(a.t13.1,(a.t14.1,(a.t15.1,(a.t16.1,((),((),((),())))))))))))))))))))),(w3 a.t17)))
 o:=fun Z a r K=>Sum.elim (fun e=>K (.tup [.nilp,.bool false]) ⟨[.opn [.lit cInstr a.2.1,.int .i64 a.2.2.1,.int .i64 a.t3.1,.int .i64 a.t4.1,.lit cInput a.t5.1,.lit cScalar a.t6.1,.lit cInput a.t7.1,.lit cAlarm a.t8.1,.lit (.int .i64) a.t9.1,.int .i64 a.t10.1,.all 1,.int .i64 a.t11.1,.int .i64 1,.int .i64 a.1.t5.1,.int .i64 4,.int .i64 a.t15.1,.int .i64 a.t16.1,.nils,.all 2,.all 3],.cells (.int .i64) a.t17.1,.deep (.int .i64) a.t18.1,.cells (.slice (.int .i64)) a.t19],0⟩) (fun e=>K (.tup [.dpl 2 e.1 e.2 0,.bool true]) ⟨[.opn [.lit cInstr a.2.1,.int .i64 a.2.2.1,.int .i64 a.t3.1,.int .i64 a.t4.1,.lit cInput a.t5.1,.lit cScalar a.t6.1,.lit cInput a.t7.1,.lit cAlarm a.t8.1,.lit (.int .i64) a.t9.1,.int .i64 a.t10.1,.all 1,.int .i64 a.t11.1,.int .i64 a.t12.1,.int .i64 a.t13.1,.int .i64 a.t14.1,.int .i64 a.t15.1,.int .i64 a.t16.1,.nils,.all 2,.all 3],.cells (.int .i64) a.t17.1,.deep (.int .i64) a.t18.1,.cells (.slice (.int .i64)) a.t19],0⟩) r
def f124v1_c {X:Type} (a:Y18) (K:(Unit) ⊕ (Nat×Nat)->Option X):Option X:=
 ask (V.inRange a.1.2.2.2.1 (List.length a.2.2.2.2.2.2.2.2.2.2.2.2.2.2.2.2.2.1)) (cond (decide ((gx a.2.2.2.2.2.2.2.2.2.2.2.2.2.2.2.2.2.1 (Int.toNat a.1.2.2.2.1) (0:Int))<(0:Int)))
 (K (.inl ()))
 (ask (V.inRange a.1.2.2.1 (List.length a.2.2.2.2.2.2.2.1)) (cond (decide ((gx a.2.2.2.2.2.2.2.1 (Int.toNat a.1.2.2.1) dInput).2.2.1<=(gx a.2.2.2.2.2.2.2.2.2.2.2.2.2.2.2.2.2.1 (Int.toNat a.1.2.2.2.1) (0:Int))))
 (K (.inl ()))
 (ask (V.inRange a.1.2.2.1 (List.length a.2.2.2.2.2.2.2.2.2.2.2.2.2.2.2.2.2.2.1)) (ask (V.inRange (gx a.2.2.2.2.2.2.2.2.2.2.2.2.2.2.2.2.2.1 (Int.toNat a.1.2.2.2.1) (0:Int)) (List.length (gx a.2.2.2.2.2.2.2.2.2.2.2.2.2.2.2.2.2.2.1 (Int.toNat a.1.2.2.1) []))) (K (.inr (((Int.toNat a.1.2.2.1),(Int.toNat (gx a.2.2.2.2.2.2.2.2.2.2.2.2.2.2.2.2.2.1 (Int.toNat a.1.2.2.2.1) (0:Int))))))))))))
def f124v1_m:=fun a=>f124v1_c a some
def f124v1_sp:Spec:=f124v1_s.sp f124v1_m
noncomputable def f124v1_e:Env:=⟨fun k=>[].contains k,callsL [(78,f78v1_sp)],fun X k s K=>none⟩
theorem f124v1_ok:OK (2) 124 (f124v1_s.sp f124v1_m):=
 fO (d:=1) (env:=f124v1_e) (callsL_sim (cc f78v1_ok cn)) (fn:=Tryz.f124) (mc:=@f124v1_c) (by intros;simp only [f124v1_m,f124v1_c,nn]) (locs:=[3])
def f89v1_s:FS (Y18) (Y12) where
 sk:=⟨(.cons (.ptr 0 0) (.cons (.agg kInstr) .nil)),[.opn kr3,.cells (.int .i64),.deep (.int .i64),.cells (.slice (.int .i64))],0⟩
 a:=fun u=>((q8 u.1.2.1),u.2.1.1,u.2.1.2.1,u.2.1.2.2.1,u.2.1.t3.1,u.2.1.t4.1,u.2.1.t5.1,u.2.1.t6.1,u.2.1.t7.1,u.2.1.t8.1,u.2.1.t9.1,u.2.1.t11.1,u.2.1.t12.1,u.2.1.t13.1,u.2.1.t14.1,u.2.1.t15.1,u.2.1.t16.1,u.2.2.1,u.t3.1,u.t4.1)
 n:=fun a=>(((),((w8 a.1),())),((a.2.1,(a.2.2.1,(a.t3.1,(a.t4.1,(a.t5.1,(a.t6.1,(a.t7.1,(a.t8.1,(a.t9.1,(a.t10.1,((),(a.t11.1,(a.t12.1,(a.t13.1,(a.t14.1,(a.t15.1,(a.t16.1,((),((),((),())))))))))))))))))))),(w3 a.t17)))
 o:=fun Z a r K=>K (.tup []) ⟨[.opn [.lit cInstr a.2.1,.int .i64 a.2.2.1,.int .i64 a.t3.1,.int .i64 a.t4.1,.lit cInput a.t5.1,.lit cScalar a.t6.1,.lit cInput a.t7.1,.lit cAlarm a.t8.1,.lit (.int .i64) a.t9.1,.int .i64 a.t10.1,.all 1,.int .i64 a.t11.1,.int .i64 r.1,.int .i64 r.2.1,.int .i64 r.2.2.1,.int .i64 a.t15.1,.int .i64 a.t16.1,.nils,.all 2,.all 3],.cells (.int .i64) r.t3,.deep (.int .i64) a.t18.1,.cells (.slice (.int .i64)) a.t19],0⟩
def f89v1_c {X:Type} (a:Y18) (K:(Y12)->Option X):Option X:=
 (f124v1_m (a.1,a.2.1,a.2.2.1,a.2.2.2.1,a.2.2.2.2.1,a.2.2.2.2.2.1,a.2.2.2.2.2.2.1,a.2.2.2.2.2.2.2.1,a.2.2.2.2.2.2.2.2.1,a.2.2.2.2.2.2.2.2.2.1,a.2.2.2.2.2.2.2.2.2.2.1,a.2.2.2.2.2.2.2.2.2.2.2.1,a.2.2.2.2.2.2.2.2.2.2.2.2.1,a.2.2.2.2.2.2.2.2.2.2.2.2.2.1,a.2.2.2.2.2.2.2.2.2.2.2.2.2.2.1,a.2.2.2.2.2.2.2.2.2.2.2.2.2.2.2.1,a.2.2.2.2.2.2.2.2.2.2.2.2.2.2.2.2.1,a.2.2.2.2.2.2.2.2.2.2.2.2.2.2.2.2.2.1,a.2.2.2.2.2.2.2.2.2.2.2.2.2.2.2.2.2.2.1,a.2.2.2.2.2.2.2.2.2.2.2.2.2.2.2.2.2.2.2)).bind fun r1=>
 Sum.elim (fun r2=>K (1,a.1.2.2.2.2.2.1,4,a.2.2.2.2.2.2.2.2.2.2.2.2.2.2.2.2.2.1))
 (fun r3=>ask (V.inRange a.1.2.1 (List.length a.2.2.2.2.2.2.2.2.2.2.2.2.2.2.2.2.2.1)) (K (a.2.2.2.2.2.2.2.2.2.2.2.2.1,a.2.2.2.2.2.2.2.2.2.2.2.2.2.1,a.2.2.2.2.2.2.2.2.2.2.2.2.2.2.1,(List.set a.2.2.2.2.2.2.2.2.2.2.2.2.2.2.2.2.2.1 (Int.toNat a.1.2.1) (gx (gx a.2.2.2.2.2.2.2.2.2.2.2.2.2.2.2.2.2.2.1 r3.1 []) r3.2 (0:Int)))))) r1
def f89v1_m:=fun a=>f89v1_c a some
def f89v1_sp:Spec:=f89v1_s.sp f89v1_m
noncomputable def f89v1_e:Env:=⟨fun k=>[].contains k,callsL [(124,f124v1_sp)],fun X k s K=>none⟩
theorem f89v1_ok:OK (3) 89 (f89v1_s.sp f89v1_m):=
 fO (d:=2) (env:=f89v1_e) (callsL_sim (cc f124v1_ok cn)) (fn:=Tryz.f89) (mc:=@f89v1_c) (by intros;simp only [f89v1_m,f89v1_c,nn]) (locs:=[3])
def f125v1_s:FS (Y21) (Unit) where
 sk:=⟨(.cons (.ptr 0 0) (.cons (.int .i64) .nil)),[.opn kr3,.cells (.int .i64),.deep (.int .i64),.cells (.slice (.int .i64))],0⟩
 a:=fun u=>(u.1.2.1,u.2.1.1,u.2.1.2.1,u.2.1.2.2.1,u.2.1.t3.1,u.2.1.t4.1,u.2.1.t5.1,u.2.1.t6.1,u.2.1.t7.1,u.2.1.t8.1,u.2.1.t9.1,u.2.1.t11.1,u.2.1.t12.1,u.2.1.t13.1,u.2.1.t14.1,u.2.1.t15.1,u.2.1.t16.1,u.2.2.1,u.t3.1,u.t4.1)
 n:=fun a=>(((),(a.1,())),((a.2.1,(a.2.2.1,(a.t3.1,(a.t4.1,(a.t5.1,(a.t6.1,(a.t7.1,(a.t8.1,(a.t9.1,(a.t10.1,((),(a.t11.1,(a.t12.1,(a.t13.1,(a.t14.1,(a.t15.1,(a.t16.1,((),((),((),())))))))))))))))))))),(w3 a.t17)))
 o:=fun Z a r K=>K (.tup []) ⟨[.opn [.lit cInstr a.2.1,.int .i64 a.2.2.1,.int .i64 a.t3.1,.int .i64 a.t4.1,.lit cInput a.t5.1,.lit cScalar a.t6.1,.lit cInput a.t7.1,.lit cAlarm a.t8.1,.lit (.int .i64) a.t9.1,.int .i64 a.t10.1,.all 1,.int .i64 a.t11.1,.int .i64 a.1,.int .i64 a.t13.1,.int .i64 a.t14.1,.int .i64 a.t15.1,.int .i64 a.t16.1,.nils,.all 2,.all 3],.cells (.int .i64) a.t17.1,.deep (.int .i64) a.t18.1,.cells (.slice (.int .i64)) a.t19],0⟩
def f125v1_c {X:Type} (a:Y21) (K:Unit->Option X):Option X:=
 K ()
def f125v1_m:=fun a=>f125v1_c a some
def f125v1_sp:Spec:=f125v1_s.sp f125v1_m
noncomputable def f125v1_e:Env:=⟨fun k=>[].contains k,callsL [],fun X k s K=>none⟩
theorem f125v1_ok:OK (1) 125 (f125v1_s.sp f125v1_m):=
 fO (d:=0) (env:=f125v1_e) (callsL_sim cn) (fn:=Tryz.f125) (mc:=@f125v1_c) (by intros;simp only [f125v1_m,f125v1_c,nn])
def f90v1_s:FS (Y18) (Y14) where
 sk:=⟨(.cons (.ptr 0 0) (.cons (.agg kInstr) .nil)),[.opn kr3,.cells (.int .i64),.deep (.int .i64),.cells (.slice (.int .i64))],0⟩
 a:=fun u=>((q8 u.1.2.1),u.2.1.1,u.2.1.2.1,u.2.1.2.2.1,u.2.1.t3.1,u.2.1.t4.1,u.2.1.t5.1,u.2.1.t6.1,u.2.1.t7.1,u.2.1.t8.1,u.2.1.t9.1,u.2.1.t11.1,u.2.1.t12.1,u.2.1.t13.1,u.2.1.t14.1,u.2.1.t15.1,u.2.1.t16.1,u.2.2.1,u.t3.1,u.t4.1)
 n:=fun a=>(((),((w8 a.1),())),((a.2.1,(a.2.2.1,(a.t3.1,(a.t4.1,(a.t5.1,(a.t6.1,(a.t7.1,(a.t8.1,(a.t9.1,(a.t10.1,((),(a.t11.1,(a.t12.1,(a.t13.1,(a.t14.1,(a.t15.1,(a.t16.1,((),((),((),())))))))))))))))))))),(w3 a.t17)))
 o:=fun Z a r K=>K (.tup []) ⟨[.opn [.lit cInstr a.2.1,.int .i64 a.2.2.1,.int .i64 a.t3.1,.int .i64 a.t4.1,.lit cInput a.t5.1,.lit cScalar a.t6.1,.lit cInput a.t7.1,.lit cAlarm a.t8.1,.lit (.int .i64) a.t9.1,.int .i64 a.t10.1,.all 1,.int .i64 a.t11.1,.int .i64 r.1,.int .i64 a.t13.1,.int .i64 a.t14.1,.int .i64 a.t15.1,.int .i64 r.2.1,.nils,.all 2,.all 3],.cells (.int .i64) r.2.2,.deep (.int .i64) a.t18.1,.cells (.slice (.int .i64)) a.t19],0⟩
def f90v1_c {X:Type} (a:Y18) (K:(Y14)->Option X):Option X:=
 cond (decide (a.2.2.2.2.2.2.2.2.2.2.2.2.2.2.2.2.1=(nt (List.length a.2.2.2.2.2.2.2.2.2.1))))
 (K (2,a.2.2.2.2.2.2.2.2.2.2.2.2.2.2.2.2.1,a.2.2.2.2.2.2.2.2.2.2.2.2.2.2.2.2.2.1))
 (ask (V.inRange a.2.2.2.2.2.2.2.2.2.2.2.2.2.2.2.2.1 (List.length a.2.2.2.2.2.2.2.2.2.1)) (ask (V.inRange a.1.2.2.1 (List.length a.2.2.2.2.2.1)) (cond (decide ((gx a.2.2.2.2.2.2.2.2.2.1 (Int.toNat a.2.2.2.2.2.2.2.2.2.2.2.2.2.2.2.2.1) (0:Int))<(gx a.2.2.2.2.2.1 (Int.toNat a.1.2.2.1) dInput).2.2.1))
 (K (5,(wi64 (a.2.2.2.2.2.2.2.2.2.2.2.2.2.2.2.2.1+(1:Int))),a.2.2.2.2.2.2.2.2.2.2.2.2.2.2.2.2.2.1))
 (cond (decide ((gx a.2.2.2.2.2.1 (Int.toNat a.1.2.2.1) dInput).2.2.2<(gx a.2.2.2.2.2.2.2.2.2.1 (Int.toNat a.2.2.2.2.2.2.2.2.2.2.2.2.2.2.2.2.1) (0:Int))))
 (K (5,(wi64 (a.2.2.2.2.2.2.2.2.2.2.2.2.2.2.2.2.1+(1:Int))),a.2.2.2.2.2.2.2.2.2.2.2.2.2.2.2.2.2.1))
 (ask (V.inRange a.1.2.1 (List.length a.2.2.2.2.2.2.2.2.2.2.2.2.2.2.2.2.2.1)) (K (a.2.2.2.2.2.2.2.2.2.2.2.2.1,(wi64 (a.2.2.2.2.2.2.2.2.2.2.2.2.2.2.2.2.1+(1:Int))),(List.set a.2.2.2.2.2.2.2.2.2.2.2.2.2.2.2.2.2.1 (Int.toNat a.1.2.1) (gx a.2.2.2.2.2.2.2.2.2.1 (Int.toNat a.2.2.2.2.2.2.2.2.2.2.2.2.2.2.2.2.1) (0:Int))))))))))
def f90v1_m:=fun a=>f90v1_c a some
def f90v1_sp:Spec:=f90v1_s.sp f90v1_m
noncomputable def f90v1_e:Env:=⟨fun k=>[].contains k,callsL [(125,f125v1_sp)],fun X k s K=>none⟩
theorem f90v1_ok:OK (2) 90 (f90v1_s.sp f90v1_m):=
 fO (d:=1) (env:=f90v1_e) (callsL_sim (cc f125v1_ok cn)) (fn:=Tryz.f90) (mc:=@f90v1_c) (by intros;simp only [f90v1_m,f90v1_c,nn]) (locs:=[3,5])
def f91v1_s:FS (Y18) (Y12) where
 sk:=⟨(.cons (.ptr 0 0) (.cons (.agg kInstr) .nil)),[.opn kr3,.cells (.int .i64),.deep (.int .i64),.cells (.slice (.int .i64))],0⟩
 a:=fun u=>((q8 u.1.2.1),u.2.1.1,u.2.1.2.1,u.2.1.2.2.1,u.2.1.t3.1,u.2.1.t4.1,u.2.1.t5.1,u.2.1.t6.1,u.2.1.t7.1,u.2.1.t8.1,u.2.1.t9.1,u.2.1.t11.1,u.2.1.t12.1,u.2.1.t13.1,u.2.1.t14.1,u.2.1.t15.1,u.2.1.t16.1,u.2.2.1,u.t3.1,u.t4.1)
 n:=fun a=>(((),((w8 a.1),())),((a.2.1,(a.2.2.1,(a.t3.1,(a.t4.1,(a.t5.1,(a.t6.1,(a.t7.1,(a.t8.1,(a.t9.1,(a.t10.1,((),(a.t11.1,(a.t12.1,(a.t13.1,(a.t14.1,(a.t15.1,(a.t16.1,((),((),((),())))))))))))))))))))),(w3 a.t17)))
 o:=fun Z a r K=>K (.tup []) ⟨[.opn [.lit cInstr a.2.1,.int .i64 a.2.2.1,.int .i64 a.t3.1,.int .i64 a.t4.1,.lit cInput a.t5.1,.lit cScalar a.t6.1,.lit cInput a.t7.1,.lit cAlarm a.t8.1,.lit (.int .i64) a.t9.1,.int .i64 a.t10.1,.all 1,.int .i64 a.t11.1,.int .i64 r.1,.int .i64 r.2.1,.int .i64 r.2.2.1,.int .i64 a.t15.1,.int .i64 a.t16.1,.nils,.all 2,.all 3],.cells (.int .i64) r.t3,.deep (.int .i64) a.t18.1,.cells (.slice (.int .i64)) a.t19],0⟩
def f91v1_c {X:Type} (a:Y18) (K:(Y12)->Option X):Option X:=
 ask (V.inRange a.1.2.2.1 (List.length a.2.2.2.2.2.2.2.2.2.2.2.2.2.2.2.2.2.1)) (ask (V.inRange a.1.2.1 (List.length a.2.2.2.2.2.2.1)) ((f77_m ((gx a.2.2.2.2.2.2.2.2.2.2.2.2.2.2.2.2.2.1 (Int.toNat a.1.2.2.1) (0:Int)),(gx a.2.2.2.2.2.2.1 (Int.toNat a.1.2.1) dScalar).2.1)).bind fun r1=>
 cond (!r1)
 (K (1,a.1.2.2.2.2.2.1,1,a.2.2.2.2.2.2.2.2.2.2.2.2.2.2.2.2.2.1))
 (ask (V.inRange a.1.2.1 (List.length a.2.2.2.2.2.2.2.2.2.2.2.2.2.2.2.2.2.1)) (K (a.2.2.2.2.2.2.2.2.2.2.2.2.1,a.2.2.2.2.2.2.2.2.2.2.2.2.2.1,a.2.2.2.2.2.2.2.2.2.2.2.2.2.2.1,(List.set a.2.2.2.2.2.2.2.2.2.2.2.2.2.2.2.2.2.1 (Int.toNat a.1.2.1) (gx a.2.2.2.2.2.2.2.2.2.2.2.2.2.2.2.2.2.1 (Int.toNat a.1.2.2.1) (0:Int))))))))
def f91v1_m:=fun a=>f91v1_c a some
def f91v1_sp:Spec:=f91v1_s.sp f91v1_m
noncomputable def f91v1_e:Env:=⟨fun k=>[].contains k,callsL [(77,f77_sp),(78,f78v1_sp)],fun X k s K=>none⟩
theorem f91v1_ok:OK (2) 91 (f91v1_s.sp f91v1_m):=
 fO (d:=1) (env:=f91v1_e) (callsL_sim (cc f77_ok (cc f78v1_ok cn))) (fn:=Tryz.f91) (mc:=@f91v1_c) (by intros;simp only [f91v1_m,f91v1_c,nn]) (locs:=[3])
def f92v1_s:FS (Y18) (Y15) where
 sk:=⟨(.cons (.ptr 0 0) (.cons (.agg kInstr) .nil)),[.opn kr3,.cells (.int .i64),.deep (.int .i64),.cells (.slice (.int .i64))],0⟩
 a:=fun u=>((q8 u.1.2.1),u.2.1.1,u.2.1.2.1,u.2.1.2.2.1,u.2.1.t3.1,u.2.1.t4.1,u.2.1.t5.1,u.2.1.t6.1,u.2.1.t7.1,u.2.1.t8.1,u.2.1.t9.1,u.2.1.t11.1,u.2.1.t12.1,u.2.1.t13.1,u.2.1.t14.1,u.2.1.t15.1,u.2.1.t16.1,u.2.2.1,u.t3.1,u.t4.1)
 n:=fun a=>(((),((w8 a.1),())),((a.2.1,(a.2.2.1,(a.t3.1,(a.t4.1,(a.t5.1,(a.t6.1,(a.t7.1,(a.t8.1,(a.t9.1,(a.t10.1,((),(a.t11.1,(a.t12.1,(a.t13.1,(a.t14.1,(a.t15.1,(a.t16.1,((),((),((),())))))))))))))))))))),(w3 a.t17)))
 o:=fun Z a r K=>K (.tup []) ⟨[.opn [.lit cInstr a.2.1,.int .i64 a.2.2.1,.int .i64 a.t3.1,.int .i64 a.t4.1,.lit cInput a.t5.1,.lit cScalar a.t6.1,.lit cInput a.t7.1,.lit cAlarm a.t8.1,.lit (.int .i64) a.t9.1,.int .i64 a.t10.1,.all 1,.int .i64 a.t11.1,.int .i64 r.1,.int .i64 r.2.1,.int .i64 r.2.2.1,.int .i64 a.t15.1,.int .i64 a.t16.1,.nils,.all 2,.all 3],.cells (.int .i64) a.t17.1,.deep (.int .i64) r.t3,.cells (.slice (.int .i64)) a.t19],0⟩
def f92v1_c {X:Type} (a:Y18) (K:(Y15)->Option X):Option X:=
 (f124v1_m (a.1,a.2.1,a.2.2.1,a.2.2.2.1,a.2.2.2.2.1,a.2.2.2.2.2.1,a.2.2.2.2.2.2.1,a.2.2.2.2.2.2.2.1,a.2.2.2.2.2.2.2.2.1,a.2.2.2.2.2.2.2.2.2.1,a.2.2.2.2.2.2.2.2.2.2.1,a.2.2.2.2.2.2.2.2.2.2.2.1,a.2.2.2.2.2.2.2.2.2.2.2.2.1,a.2.2.2.2.2.2.2.2.2.2.2.2.2.1,a.2.2.2.2.2.2.2.2.2.2.2.2.2.2.1,a.2.2.2.2.2.2.2.2.2.2.2.2.2.2.2.1,a.2.2.2.2.2.2.2.2.2.2.2.2.2.2.2.2.1,a.2.2.2.2.2.2.2.2.2.2.2.2.2.2.2.2.2.1,a.2.2.2.2.2.2.2.2.2.2.2.2.2.2.2.2.2.2.1,a.2.2.2.2.2.2.2.2.2.2.2.2.2.2.2.2.2.2.2)).bind fun r1=>
 Sum.elim (fun r2=>K (1,a.1.2.2.2.2.2.1,4,a.2.2.2.2.2.2.2.2.2.2.2.2.2.2.2.2.2.2.1))
 (fun r3=>ask (V.inRange a.1.2.1 (List.length a.2.2.2.2.2.2.2.2.2.2.2.2.2.2.2.2.2.1)) (ask (V.inRange a.1.2.2.1 (List.length a.2.2.2.2.2.2.2.1)) ((f77_m ((gx a.2.2.2.2.2.2.2.2.2.2.2.2.2.2.2.2.2.1 (Int.toNat a.1.2.1) (0:Int)),(gx a.2.2.2.2.2.2.2.1 (Int.toNat a.1.2.2.1) dInput).2.1)).bind fun r4=>
 cond (!r4)
 (K (1,a.1.2.2.2.2.2.1,1,a.2.2.2.2.2.2.2.2.2.2.2.2.2.2.2.2.2.2.1))
 (K (a.2.2.2.2.2.2.2.2.2.2.2.2.1,a.2.2.2.2.2.2.2.2.2.2.2.2.2.1,a.2.2.2.2.2.2.2.2.2.2.2.2.2.2.1,(List.set a.2.2.2.2.2.2.2.2.2.2.2.2.2.2.2.2.2.2.1 r3.1 (List.set (gx a.2.2.2.2.2.2.2.2.2.2.2.2.2.2.2.2.2.2.1 r3.1 []) r3.2 (gx a.2.2.2.2.2.2.2.2.2.2.2.2.2.2.2.2.2.1 (Int.toNat a.1.2.1) (0:Int))))))))) r1
def f92v1_m:=fun a=>f92v1_c a some
def f92v1_sp:Spec:=f92v1_s.sp f92v1_m
noncomputable def f92v1_e:Env:=⟨fun k=>[].contains k,callsL [(124,f124v1_sp),(77,f77_sp),(78,f78v1_sp)],fun X k s K=>none⟩
theorem f92v1_ok:OK (3) 92 (f92v1_s.sp f92v1_m):=
 fO (d:=2) (env:=f92v1_e) (callsL_sim (cc f124v1_ok (cc f77_ok (cc f78v1_ok cn)))) (fn:=Tryz.f92) (mc:=@f92v1_c) (by intros;simp only [f92v1_m,f92v1_c,nn]) (locs:=[3])
def f93v1_s:FS (Y18) (Int) where
 sk:=⟨(.cons (.ptr 0 0) (.cons (.agg kInstr) .nil)),[.opn kr3,.cells (.int .i64),.deep (.int .i64),.cells (.slice (.int .i64))],0⟩
 a:=fun u=>((q8 u.1.2.1),u.2.1.1,u.2.1.2.1,u.2.1.2.2.1,u.2.1.t3.1,u.2.1.t4.1,u.2.1.t5.1,u.2.1.t6.1,u.2.1.t7.1,u.2.1.t8.1,u.2.1.t9.1,u.2.1.t11.1,u.2.1.t12.1,u.2.1.t13.1,u.2.1.t14.1,u.2.1.t15.1,u.2.1.t16.1,u.2.2.1,u.t3.1,u.t4.1)
 n:=fun a=>(((),((w8 a.1),())),((a.2.1,(a.2.2.1,(a.t3.1,(a.t4.1,(a.t5.1,(a.t6.1,(a.t7.1,(a.t8.1,(a.t9.1,(a.t10.1,((),(a.t11.1,(a.t12.1,(a.t13.1,(a.t14.1,(a.t15.1,(a.t16.1,((),((),((),())))))))))))))))))))),(w3 a.t17)))
 o:=fun Z a r K=>K (.tup []) ⟨[.opn [.lit cInstr a.2.1,.int .i64 a.2.2.1,.int .i64 a.t3.1,.int .i64 a.t4.1,.lit cInput a.t5.1,.lit cScalar a.t6.1,.lit cInput a.t7.1,.lit cAlarm a.t8.1,.lit (.int .i64) a.t9.1,.int .i64 a.t10.1,.all 1,.int .i64 r,.int .i64 a.t12.1,.int .i64 a.t13.1,.int .i64 a.t14.1,.int .i64 a.t15.1,.int .i64 a.t16.1,.nils,.all 2,.all 3],.cells (.int .i64) a.t17.1,.deep (.int .i64) a.t18.1,.cells (.slice (.int .i64)) a.t19],0⟩
def f93v1_c {X:Type} (a:Y18) (K:Int->Option X):Option X:=
 ask (V.inRange a.1.2.2.1 (List.length a.2.2.2.2.2.2.2.2.2.2.2.2.2.2.2.2.2.1)) (ask (V.inRange a.1.2.2.2.1 (List.length a.2.2.2.2.2.2.2.2.2.2.2.2.2.2.2.2.2.1)) (cond (decide ((wi64 (a.1.2.2.2.2.1-(14:Int)))=(0:Int)))
 (cond (!(decide ((gx a.2.2.2.2.2.2.2.2.2.2.2.2.2.2.2.2.2.1 (Int.toNat a.1.2.2.1) (0:Int))=(gx a.2.2.2.2.2.2.2.2.2.2.2.2.2.2.2.2.2.1 (Int.toNat a.1.2.2.2.1) (0:Int)))))
 (K a.1.2.2.2.2.2.2.2)
 (K a.2.2.2.2.2.2.2.2.2.2.2.1))
 (cond (decide ((wi64 (a.1.2.2.2.2.1-(14:Int)))=(1:Int)))
 (cond (!(!(decide ((gx a.2.2.2.2.2.2.2.2.2.2.2.2.2.2.2.2.2.1 (Int.toNat a.1.2.2.1) (0:Int))=(gx a.2.2.2.2.2.2.2.2.2.2.2.2.2.2.2.2.2.1 (Int.toNat a.1.2.2.2.1) (0:Int))))))
 (K a.1.2.2.2.2.2.2.2)
 (K a.2.2.2.2.2.2.2.2.2.2.2.1))
 (cond (decide ((wi64 (a.1.2.2.2.2.1-(14:Int)))=(2:Int)))
 (cond (!(decide ((gx a.2.2.2.2.2.2.2.2.2.2.2.2.2.2.2.2.2.1 (Int.toNat a.1.2.2.1) (0:Int))<(gx a.2.2.2.2.2.2.2.2.2.2.2.2.2.2.2.2.2.1 (Int.toNat a.1.2.2.2.1) (0:Int)))))
 (K a.1.2.2.2.2.2.2.2)
 (K a.2.2.2.2.2.2.2.2.2.2.2.1))
 (cond (decide ((wi64 (a.1.2.2.2.2.1-(14:Int)))=(3:Int)))
 (cond (!(decide ((gx a.2.2.2.2.2.2.2.2.2.2.2.2.2.2.2.2.2.1 (Int.toNat a.1.2.2.1) (0:Int))<=(gx a.2.2.2.2.2.2.2.2.2.2.2.2.2.2.2.2.2.1 (Int.toNat a.1.2.2.2.1) (0:Int)))))
 (K a.1.2.2.2.2.2.2.2)
 (K a.2.2.2.2.2.2.2.2.2.2.2.1))
 (cond (decide ((wi64 (a.1.2.2.2.2.1-(14:Int)))=(4:Int)))
 (cond (!(decide ((gx a.2.2.2.2.2.2.2.2.2.2.2.2.2.2.2.2.2.1 (Int.toNat a.1.2.2.2.1) (0:Int))<(gx a.2.2.2.2.2.2.2.2.2.2.2.2.2.2.2.2.2.1 (Int.toNat a.1.2.2.1) (0:Int)))))
 (K a.1.2.2.2.2.2.2.2)
 (K a.2.2.2.2.2.2.2.2.2.2.2.1))
 (cond (decide ((wi64 (a.1.2.2.2.2.1-(14:Int)))=(5:Int)))
 (cond (!(decide ((gx a.2.2.2.2.2.2.2.2.2.2.2.2.2.2.2.2.2.1 (Int.toNat a.1.2.2.2.1) (0:Int))<=(gx a.2.2.2.2.2.2.2.2.2.2.2.2.2.2.2.2.2.1 (Int.toNat a.1.2.2.1) (0:Int)))))
 (K a.1.2.2.2.2.2.2.2)
 (K a.2.2.2.2.2.2.2.2.2.2.2.1))
 (none))))))))
def f93v1_m:=fun a=>f93v1_c a some
def f93v1_sp:Spec:=f93v1_s.sp f93v1_m
noncomputable def f93v1_e:Env:=⟨fun k=>[].contains k,callsL [],fun X k s K=>none⟩
theorem f93v1_ok:OK (1) 93 (f93v1_s.sp f93v1_m):=
 fO (d:=0) (env:=f93v1_e) (callsL_sim cn) (fn:=Tryz.f93) (mc:=@f93v1_c) (by intros;simp only [f93v1_m,f93v1_c,nn]) (locs:=[3,6])
def f79v1_s:FS (Y18) (Unit) where
 sk:=⟨(.cons (.ptr 0 0) (.cons (.agg kInstr) .nil)),[.opn kr3,.cells (.int .i64),.deep (.int .i64),.cells (.slice (.int .i64))],0⟩
 a:=fun u=>((q8 u.1.2.1),u.2.1.1,u.2.1.2.1,u.2.1.2.2.1,u.2.1.t3.1,u.2.1.t4.1,u.2.1.t5.1,u.2.1.t6.1,u.2.1.t7.1,u.2.1.t8.1,u.2.1.t9.1,u.2.1.t11.1,u.2.1.t12.1,u.2.1.t13.1,u.2.1.t14.1,u.2.1.t15.1,u.2.1.t16.1,u.2.2.1,u.t3.1,u.t4.1)
 n:=fun a=>(((),((w8 a.1),())),((a.2.1,(a.2.2.1,(a.t3.1,(a.t4.1,(a.t5.1,(a.t6.1,(a.t7.1,(a.t8.1,(a.t9.1,(a.t10.1,((),(a.t11.1,(a.t12.1,(a.t13.1,(a.t14.1,(a.t15.1,(a.t16.1,((),((),((),())))))))))))))))))))),(w3 a.t17)))
 o:=fun Z a r K=>K (.tup []) ⟨[.opn [.lit cInstr a.2.1,.int .i64 a.2.2.1,.int .i64 a.t3.1,.int .i64 a.t4.1,.lit cInput a.t5.1,.lit cScalar a.t6.1,.lit cInput a.t7.1,.lit cAlarm a.t8.1,.lit (.int .i64) a.t9.1,.int .i64 a.t10.1,.all 1,.int .i64 a.t11.1,.int .i64 a.t12.1,.int .i64 a.t13.1,.int .i64 a.t14.1,.int .i64 a.t15.1,.int .i64 a.t16.1,.nils,.all 2,.all 3],.cells (.int .i64) a.t17.1,.deep (.int .i64) a.t18.1,.cells (.slice (.int .i64)) a.t19],0⟩
def f79v1_c {X:Type} (a:Y18) (K:Unit->Option X):Option X:=
 K ()
def f79v1_m:=fun a=>f79v1_c a some
def f79v1_sp:Spec:=f79v1_s.sp f79v1_m
noncomputable def f79v1_e:Env:=⟨fun k=>[].contains k,callsL [],fun X k s K=>none⟩
theorem f79v1_ok:OK (1) 79 (f79v1_s.sp f79v1_m):=
 fO (d:=0) (env:=f79v1_e) (callsL_sim cn) (fn:=Tryz.f79) (mc:=@f79v1_c) (by intros;simp only [f79v1_m,f79v1_c,nn]) (locs:=[3])
def f97v1_s:FS (Y22) (Bool×Int×Int) where
 sk:=⟨(.cons (.ptr 0 0) .nil),[.opn kr3,.cells (.int .i64),.deep (.int .i64),.cells (.slice (.int .i64))],0⟩
 a:=fun u=>(u.2.1.1,u.2.1.2.1,u.2.1.2.2.1,u.2.1.t3.1,u.2.1.t4.1,u.2.1.t5.1,u.2.1.t6.1,u.2.1.t7.1,u.2.1.t8.1,u.2.1.t9.1,u.2.1.t11.1,u.2.1.t12.1,u.2.1.t13.1,u.2.1.t14.1,u.2.1.t15.1,u.2.1.t16.1,u.2.2.1,u.t3.1,u.t4.1)
 n:=fun a=>(((),()),((a.1,(a.2.1,(a.2.2.1,(a.t3.1,(a.t4.1,(a.t5.1,(a.t6.1,(a.t7.1,(a.t8.1,(a.t9.1,((),(a.t10.1,(a.t11.1,(a.t12.1,(a.t13.1,(a.t14.1,(a.t15.1,((),((),((),())))))))))))))))))))),(w3 a.t16)))
 o:=fun Z a r K=>K (.bool r.1) ⟨[.opn [.lit cInstr a.1,.int .i64 a.2.1,.int .i64 a.2.2.1,.int .i64 a.t3.1,.lit cInput a.t4.1,.lit cScalar a.t5.1,.lit cInput a.t6.1,.lit cAlarm a.t7.1,.lit (.int .i64) a.t8.1,.int .i64 r.2.1,.all 1,.int .i64 a.t10.1,.int .i64 r.2.2,.int .i64 a.t12.1,.int .i64 a.t13.1,.int .i64 a.t14.1,.int .i64 a.t15.1,.nils,.all 2,.all 3],.cells (.int .i64) a.t16.1,.deep (.int .i64) a.t17.1,.cells (.slice (.int .i64)) a.t18],0⟩
def f97v1_c {X:Type} (a:Y22) (K:(Bool×Int×Int)->Option X):Option X:=
 cond (decide (a.2.2.2.2.2.2.2.2.2.1=(0:Int)))
 (K (false,a.2.2.2.2.2.2.2.2.2.1,4))
 (K (true,(wi64 (a.2.2.2.2.2.2.2.2.2.1-(1:Int))),a.2.2.2.2.2.2.2.2.2.2.2.1))
def f97v1_m:=fun a=>f97v1_c a some
def f97v1_sp:Spec:=f97v1_s.sp f97v1_m
noncomputable def f97v1_e:Env:=⟨fun k=>[].contains k,callsL [(125,f125v1_sp)],fun X k s K=>none⟩
theorem f97v1_ok:OK (2) 97 (f97v1_s.sp f97v1_m):=
 fO (d:=1) (env:=f97v1_e) (callsL_sim (cc f125v1_ok cn)) (fn:=Tryz.f97) (mc:=@f97v1_c) (by intros;simp only [f97v1_m,f97v1_c,nn])
def f57v1_s:FS (Y22) ((List Int)) where
 sk:=⟨(.cons (.ptr 0 0) .nil),[.opn kr3,.cells (.int .i64),.deep (.int .i64),.cells (.slice (.int .i64))],4⟩
 a:=fun u=>(u.2.1.1,u.2.1.2.1,u.2.1.2.2.1,u.2.1.t3.1,u.2.1.t4.1,u.2.1.t5.1,u.2.1.t6.1,u.2.1.t7.1,u.2.1.t8.1,u.2.1.t9.1,u.2.1.t11.1,u.2.1.t12.1,u.2.1.t13.1,u.2.1.t14.1,u.2.1.t15.1,u.2.1.t16.1,u.2.2.1,u.t3.1,u.t4.1)
 n:=fun a=>(((),()),((a.1,(a.2.1,(a.2.2.1,(a.t3.1,(a.t4.1,(a.t5.1,(a.t6.1,(a.t7.1,(a.t8.1,(a.t9.1,((),(a.t10.1,(a.t11.1,(a.t12.1,(a.t13.1,(a.t14.1,(a.t15.1,((),((),((),())))))))))))))))))))),(w3 a.t16)))
 o:=fun Z a r K=>K (.lit (.int .i64) r) ⟨[.opn [.lit cInstr a.1,.int .i64 a.2.1,.int .i64 a.2.2.1,.int .i64 a.t3.1,.lit cInput a.t4.1,.lit cScalar a.t5.1,.lit cInput a.t6.1,.lit cAlarm a.t7.1,.lit (.int .i64) a.t8.1,.int .i64 a.t9.1,.all 1,.int .i64 a.t10.1,.int .i64 a.t11.1,.int .i64 a.t12.1,.int .i64 a.t13.1,.int .i64 a.t14.1,.int .i64 a.t15.1,.nils,.all 2,.all 3],.cells (.int .i64) a.t16.1,.deep (.int .i64) a.t17.1,.cells (.slice (.int .i64)) a.t18],4⟩
def f57v1_c {X:Type} (a:Y22) (K:(List Int)->Option X):Option X:=
 ask (decide (0<=(0:Int))&&decide ((0:Int)<=(nt (List.length a.2.2.2.2.2.1)))&&decide ((nt (List.length a.2.2.2.2.2.1))<=(nt (List.length a.2.2.2.2.2.2.2.2.2.2.2.2.2.2.2.2.1)))) (ask (decide ((List.length (cutL 0 (Int.toNat (nt (List.length a.2.2.2.2.2.1))-0) a.2.2.2.2.2.2.2.2.2.2.2.2.2.2.2.2.1)) * 8<=70368744177664)&&decide ((List.length (cutL 0 (Int.toNat (nt (List.length a.2.2.2.2.2.1))-0) a.2.2.2.2.2.2.2.2.2.2.2.2.2.2.2.2.1))<9223372036854775808)) (K (cutL 0 (Int.toNat (nt (List.length a.2.2.2.2.2.1))-0) a.2.2.2.2.2.2.2.2.2.2.2.2.2.2.2.2.1)))
def f57v1_m:=fun a=>f57v1_c a some
def f57v1_sp:Spec:=f57v1_s.sp f57v1_m
noncomputable def f57v1_e:Env:=⟨fun k=>[].contains k,callsL [],fun X k s K=>none⟩
theorem f57v1_ok:OK (1) 57 (f57v1_s.sp f57v1_m):=
 fO (d:=0) (env:=f57v1_e) (callsL_sim cn) (fn:=Tryz.f57) (mc:=@f57v1_c) (by intros;simp only [f57v1_m,f57v1_c,nn]) (sh:=(.lit (.int .i64))) (fz:=true)
end
end Go.U
end
