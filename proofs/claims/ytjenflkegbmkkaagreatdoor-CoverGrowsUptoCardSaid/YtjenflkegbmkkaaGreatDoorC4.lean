/- The functions of the program as Lean functions, and that the evaluator says so. -/
import Derived.Test.YtjenflkegbmkkaaGreatDoorC3
set_option linter.unusedVariables false
set_option linter.unusedSimpArgs false
set_option linter.unusedSectionVars false
section
set_option maxRecDepth 100000
namespace Go.U
open Go Go.Proofs
noncomputable section
variable {C:V.Callee}
def f80v1_s:FS (Y18) ((List Int)) where
 sk:=⟨(.cons (.ptr 0 0) (.cons (.agg kInstr) .nil)),[.opn kr3,.cells (.int .i64),.deep (.int .i64),.cells (.slice (.int .i64))],0⟩
 a:=fun u=>((q8 u.1.2.1),u.2.1.1,u.2.1.2.1,u.2.1.2.2.1,u.2.1.t3.1,u.2.1.t4.1,u.2.1.t5.1,u.2.1.t6.1,u.2.1.t7.1,u.2.1.t8.1,u.2.1.t9.1,u.2.1.t11.1,u.2.1.t12.1,u.2.1.t13.1,u.2.1.t14.1,u.2.1.t15.1,u.2.1.t16.1,u.2.2.1,u.t3.1,u.t4.1)
 n:=fun a=>(((),((w8 a.1),())),((a.2.1,(a.2.2.1,(a.t3.1,(a.t4.1,(a.t5.1,(a.t6.1,(a.t7.1,(a.t8.1,(a.t9.1,(a.t10.1,((),(a.t11.1,(a.t12.1,(a.t13.1,(a.t14.1,(a.t15.1,(a.t16.1,((),((),((),())))))))))))))))))))),(w3 a.t17)))
 o:=fun Z a r K=>K (.tup []) ⟨[.opn [.lit cInstr a.2.1,.int .i64 a.2.2.1,.int .i64 a.t3.1,.int .i64 a.t4.1,.lit cInput a.t5.1,.lit cScalar a.t6.1,.lit cInput a.t7.1,.lit cAlarm a.t8.1,.lit (.int .i64) a.t9.1,.int .i64 a.t10.1,.all 1,.int .i64 a.t11.1,.int .i64 a.t12.1,.int .i64 a.t13.1,.int .i64 a.t14.1,.int .i64 a.t15.1,.int .i64 a.t16.1,.nils,.all 2,.all 3],.cells (.int .i64) r,.deep (.int .i64) a.t18.1,.cells (.slice (.int .i64)) a.t19],0⟩
def f80v1_c {X:Type} (a:Y18) (K:(List Int)->Option X):Option X:=
 ask (V.inRange a.1.2.1 (List.length a.2.2.2.2.2.2.2.2.2.2.2.2.2.2.2.2.2.1)) (K (List.set a.2.2.2.2.2.2.2.2.2.2.2.2.2.2.2.2.2.1 (Int.toNat a.1.2.1) a.1.2.2.2.2.1))
def f80v1_m:=fun a=>f80v1_c a some
def f80v1_sp:Spec:=f80v1_s.sp f80v1_m
noncomputable def f80v1_e:Env:=⟨fun k=>[].contains k,callsL [],fun X k s K=>none⟩
theorem f80v1_ok:OK (1) 80 (f80v1_s.sp f80v1_m):=
 fO (d:=0) (env:=f80v1_e) (callsL_sim cn) (fn:=Tryz.f80) (mc:=@f80v1_c) (by intros;simp only [f80v1_m,f80v1_c,nn]) (locs:=[3])
def f78v1_s:FS (Y19) (Unit) where
 sk:=⟨(.cons (.ptr 0 0) (.cons (.agg kInstr) (.cons (.int .i64) .nil))),[.opn kr3,.cells (.int .i64),.deep (.int .i64),.cells (.slice (.int .i64))],0⟩
 a:=fun u=>((q8 u.1.2.1),u.1.2.2.1,u.2.1.1,u.2.1.2.1,u.2.1.2.2.1,u.2.1.t3.1,u.2.1.t4.1,u.2.1.t5.1,u.2.1.t6.1,u.2.1.t7.1,u.2.1.t8.1,u.2.1.t9.1,u.2.1.t11.1,u.2.1.t12.1,u.2.1.t13.1,u.2.1.t14.1,u.2.1.t15.1,u.2.1.t16.1,u.2.2.1,u.t3.1,u.t4.1)
 n:=fun a=>(((),((w8 a.1),(a.2.1,()))),((a.2.2.1,(a.t3.1,(a.t4.1,(a.t5.1,(a.t6.1,(a.t7.1,(a.t8.1,(a.t9.1,(a.t10.1,(a.t11.1,((),(a.t12.1,(a.t13.1,(a.t14.1,(a.t15.1,(a.t16.1,(a.t17.1,((),((),((),())))))))))))))))))))),(w3 a.t18)))
 o:=fun Z a r K=>K (.tup []) ⟨[.opn [.lit cInstr a.2.2.1,.int .i64 a.t3.1,.int .i64 a.t4.1,.int .i64 a.t5.1,.lit cInput a.t6.1,.lit cScalar a.t7.1,.lit cInput a.t8.1,.lit cAlarm a.t9.1,.lit (.int .i64) a.t10.1,.int .i64 a.t11.1,.all 1,.int .i64 a.t12.1,.int .i64 1,.int .i64 a.1.t5.1,.int .i64 a.2.1,.int .i64 a.t16.1,.int .i64 a.t17.1,.nils,.all 2,.all 3],.cells (.int .i64) a.t18.1,.deep (.int .i64) a.t19.1,.cells (.slice (.int .i64)) a.t20],0⟩
def f78v1_c {X:Type} (a:Y19) (K:Unit->Option X):Option X:=
 K ()
def f78v1_m:=fun a=>f78v1_c a some
def f78v1_sp:Spec:=f78v1_s.sp f78v1_m
noncomputable def f78v1_e:Env:=⟨fun k=>[].contains k,callsL [],fun X k s K=>none⟩
theorem f78v1_ok:OK (1) 78 (f78v1_s.sp f78v1_m):=
 fO (d:=0) (env:=f78v1_e) (callsL_sim cn) (fn:=Tryz.f78) (mc:=@f78v1_c) (by intros;simp only [f78v1_m,f78v1_c,nn]) (locs:=[4])
def f76v7_s:FS (Y20) (Y12) where
 sk:=⟨(.cons (.ptr 2 0) (.cons (.agg kInstr) (.cons (.ptr 0 0) (.cons (.ptr 1 0) .nil)))),[.opn (.cons (.fn 81 .nil) .nil),.opn (.cons .bool .nil),.opn kr4,.cells (.int .i64),.deep (.int .i64),.cells (.slice (.int .i64))],0⟩
 a:=fun u=>((q8 u.1.2.1),u.2.2.1.1,u.t3.1.1,u.t3.1.2.1,u.t3.1.2.2.1,u.t3.1.t3.1,u.t3.1.t4.1,u.t3.1.t5.1,u.t3.1.t6.1,u.t3.1.t7.1,u.t3.1.t8.1,u.t3.1.t9.1,u.t3.1.t11.1,u.t3.1.t12.1,u.t3.1.t13.1,u.t3.1.t14.1,u.t3.1.t15.1,u.t3.1.t16.1,u.t4.1,u.t5.1,u.t6.1)
 n:=fun a=>(((),((w8 a.1),((),((),())))),(((),()),((a.2.1,()),((a.2.2.1,(a.t3.1,(a.t4.1,(a.t5.1,(a.t6.1,(a.t7.1,(a.t8.1,(a.t9.1,(a.t10.1,(a.t11.1,((),(a.t12.1,(a.t13.1,(a.t14.1,(a.t15.1,(a.t16.1,(a.t17.1,((),((),((),())))))))))))))))))))),(w3 a.t18)))))
 o:=fun Z a r K=>K (.tup []) ⟨[.opn [.fn 81 []],.opn [.bool a.2.1],.opn [.lit cInstr a.2.2.1,.int .i64 a.t3.1,.int .i64 a.t4.1,.int .i64 a.t5.1,.lit cInput a.t6.1,.lit cScalar a.t7.1,.lit cInput a.t8.1,.lit cAlarm a.t9.1,.lit (.int .i64) a.t10.1,.int .i64 a.t11.1,.all 3,.int .i64 a.t12.1,.int .i64 r.1,.int .i64 r.2.1,.int .i64 r.2.2.1,.int .i64 a.t16.1,.int .i64 a.t17.1,.nils,.all 4,.all 5],.cells (.int .i64) r.t3,.deep (.int .i64) a.t19.1,.cells (.slice (.int .i64)) a.t20],0⟩
def f76v7_c {X:Type} (a:Y20) (K:(Y12)->Option X):Option X:=
 ask (V.inRange a.1.2.2.1 (List.length a.2.2.2.2.2.2.2.2.2.2.2.2.2.2.2.2.2.2.1)) (ask (V.inRange a.1.2.2.2.1 (List.length a.2.2.2.2.2.2.2.2.2.2.2.2.2.2.2.2.2.2.1)) (cond a.2.1
 ((f77_m ((wi64 ((0:Int)-(gx a.2.2.2.2.2.2.2.2.2.2.2.2.2.2.2.2.2.2.1 (Int.toNat a.1.2.2.1) (0:Int)))),3)).bind fun r1=>
 cond (!r1)
 (K (1,a.1.2.2.2.2.2.1,1,a.2.2.2.2.2.2.2.2.2.2.2.2.2.2.2.2.2.2.1))
 (ask (V.inRange a.1.2.1 (List.length a.2.2.2.2.2.2.2.2.2.2.2.2.2.2.2.2.2.2.1)) (K (a.2.2.2.2.2.2.2.2.2.2.2.2.2.1,a.2.2.2.2.2.2.2.2.2.2.2.2.2.2.1,a.2.2.2.2.2.2.2.2.2.2.2.2.2.2.2.1,(List.set a.2.2.2.2.2.2.2.2.2.2.2.2.2.2.2.2.2.2.1 (Int.toNat a.1.2.1) (wi64 ((0:Int)-(gx a.2.2.2.2.2.2.2.2.2.2.2.2.2.2.2.2.2.2.1 (Int.toNat a.1.2.2.1) (0:Int)))))))))
 (ask (V.inRange a.1.2.1 (List.length a.2.2.2.2.2.2.2.2.2.2.2.2.2.2.2.2.2.2.1)) (K (a.2.2.2.2.2.2.2.2.2.2.2.2.2.1,a.2.2.2.2.2.2.2.2.2.2.2.2.2.2.1,a.2.2.2.2.2.2.2.2.2.2.2.2.2.2.2.1,(List.set a.2.2.2.2.2.2.2.2.2.2.2.2.2.2.2.2.2.2.1 (Int.toNat a.1.2.1) (wi64 ((0:Int)-(gx a.2.2.2.2.2.2.2.2.2.2.2.2.2.2.2.2.2.2.1 (Int.toNat a.1.2.2.1) (0:Int))))))))))
def f76v7_m:=fun a=>f76v7_c a some
def f76v7_sp:Spec:=f76v7_s.sp f76v7_m
noncomputable def f76v7_e:Env:=⟨fun k=>[].contains k,callsL [(81,f81_sp),(77,f77_sp),(78,f78v1_sp)],fun X k s K=>none⟩
theorem f76v7_ok:OK (2) 76 (f76v7_s.sp f76v7_m):=
 fO (d:=1) (env:=f76v7_e) (callsL_sim (cc f81_ok (cc f77_ok (cc f78v1_ok cn)))) (fn:=Tryz.f76) (mc:=@f76v7_c) (by intros;simp only [f76v7_m,f76v7_c,nn]) (locs:=[5])
def f76v8_s:FS (Y20) (Y12) where
 sk:=⟨(.cons (.ptr 2 0) (.cons (.agg kInstr) (.cons (.ptr 0 0) (.cons (.ptr 1 0) .nil)))),[.opn (.cons (.fn 82 .nil) .nil),.opn (.cons .bool .nil),.opn kr4,.cells (.int .i64),.deep (.int .i64),.cells (.slice (.int .i64))],0⟩
 a:=fun u=>((q8 u.1.2.1),u.2.2.1.1,u.t3.1.1,u.t3.1.2.1,u.t3.1.2.2.1,u.t3.1.t3.1,u.t3.1.t4.1,u.t3.1.t5.1,u.t3.1.t6.1,u.t3.1.t7.1,u.t3.1.t8.1,u.t3.1.t9.1,u.t3.1.t11.1,u.t3.1.t12.1,u.t3.1.t13.1,u.t3.1.t14.1,u.t3.1.t15.1,u.t3.1.t16.1,u.t4.1,u.t5.1,u.t6.1)
 n:=fun a=>(((),((w8 a.1),((),((),())))),(((),()),((a.2.1,()),((a.2.2.1,(a.t3.1,(a.t4.1,(a.t5.1,(a.t6.1,(a.t7.1,(a.t8.1,(a.t9.1,(a.t10.1,(a.t11.1,((),(a.t12.1,(a.t13.1,(a.t14.1,(a.t15.1,(a.t16.1,(a.t17.1,((),((),((),())))))))))))))))))))),(w3 a.t18)))))
 o:=fun Z a r K=>K (.tup []) ⟨[.opn [.fn 82 []],.opn [.bool a.2.1],.opn [.lit cInstr a.2.2.1,.int .i64 a.t3.1,.int .i64 a.t4.1,.int .i64 a.t5.1,.lit cInput a.t6.1,.lit cScalar a.t7.1,.lit cInput a.t8.1,.lit cAlarm a.t9.1,.lit (.int .i64) a.t10.1,.int .i64 a.t11.1,.all 3,.int .i64 a.t12.1,.int .i64 r.1,.int .i64 r.2.1,.int .i64 r.2.2.1,.int .i64 a.t16.1,.int .i64 a.t17.1,.nils,.all 4,.all 5],.cells (.int .i64) r.t3,.deep (.int .i64) a.t19.1,.cells (.slice (.int .i64)) a.t20],0⟩
def f76v8_c {X:Type} (a:Y20) (K:(Y12)->Option X):Option X:=
 ask (V.inRange a.1.2.2.1 (List.length a.2.2.2.2.2.2.2.2.2.2.2.2.2.2.2.2.2.2.1)) (ask (V.inRange a.1.2.2.2.1 (List.length a.2.2.2.2.2.2.2.2.2.2.2.2.2.2.2.2.2.2.1)) (cond a.2.1
 ((f77_m ((if (wi64 ((0:Int)-(gx a.2.2.2.2.2.2.2.2.2.2.2.2.2.2.2.2.2.2.1 (Int.toNat a.1.2.2.1) (0:Int))))>(gx a.2.2.2.2.2.2.2.2.2.2.2.2.2.2.2.2.2.2.1 (Int.toNat a.1.2.2.1) (0:Int)) then (wi64 ((0:Int)-(gx a.2.2.2.2.2.2.2.2.2.2.2.2.2.2.2.2.2.2.1 (Int.toNat a.1.2.2.1) (0:Int)))) else (gx a.2.2.2.2.2.2.2.2.2.2.2.2.2.2.2.2.2.2.1 (Int.toNat a.1.2.2.1) (0:Int))),3)).bind fun r1=>
 cond (!r1)
 (K (1,a.1.2.2.2.2.2.1,1,a.2.2.2.2.2.2.2.2.2.2.2.2.2.2.2.2.2.2.1))
 (ask (V.inRange a.1.2.1 (List.length a.2.2.2.2.2.2.2.2.2.2.2.2.2.2.2.2.2.2.1)) (K (a.2.2.2.2.2.2.2.2.2.2.2.2.2.1,a.2.2.2.2.2.2.2.2.2.2.2.2.2.2.1,a.2.2.2.2.2.2.2.2.2.2.2.2.2.2.2.1,(List.set a.2.2.2.2.2.2.2.2.2.2.2.2.2.2.2.2.2.2.1 (Int.toNat a.1.2.1) (if (wi64 ((0:Int)-(gx a.2.2.2.2.2.2.2.2.2.2.2.2.2.2.2.2.2.2.1 (Int.toNat a.1.2.2.1) (0:Int))))>(gx a.2.2.2.2.2.2.2.2.2.2.2.2.2.2.2.2.2.2.1 (Int.toNat a.1.2.2.1) (0:Int)) then (wi64 ((0:Int)-(gx a.2.2.2.2.2.2.2.2.2.2.2.2.2.2.2.2.2.2.1 (Int.toNat a.1.2.2.1) (0:Int)))) else (gx a.2.2.2.2.2.2.2.2.2.2.2.2.2.2.2.2.2.2.1 (Int.toNat a.1.2.2.1) (0:Int))))))))
 (ask (V.inRange a.1.2.1 (List.length a.2.2.2.2.2.2.2.2.2.2.2.2.2.2.2.2.2.2.1)) (K (a.2.2.2.2.2.2.2.2.2.2.2.2.2.1,a.2.2.2.2.2.2.2.2.2.2.2.2.2.2.1,a.2.2.2.2.2.2.2.2.2.2.2.2.2.2.2.1,(List.set a.2.2.2.2.2.2.2.2.2.2.2.2.2.2.2.2.2.2.1 (Int.toNat a.1.2.1) (if (wi64 ((0:Int)-(gx a.2.2.2.2.2.2.2.2.2.2.2.2.2.2.2.2.2.2.1 (Int.toNat a.1.2.2.1) (0:Int))))>(gx a.2.2.2.2.2.2.2.2.2.2.2.2.2.2.2.2.2.2.1 (Int.toNat a.1.2.2.1) (0:Int)) then (wi64 ((0:Int)-(gx a.2.2.2.2.2.2.2.2.2.2.2.2.2.2.2.2.2.2.1 (Int.toNat a.1.2.2.1) (0:Int)))) else (gx a.2.2.2.2.2.2.2.2.2.2.2.2.2.2.2.2.2.2.1 (Int.toNat a.1.2.2.1) (0:Int)))))))))
def f76v8_m:=fun a=>f76v8_c a some
def f76v8_sp:Spec:=f76v8_s.sp f76v8_m
noncomputable def f76v8_e:Env:=⟨fun k=>[].contains k,callsL [(82,f82_sp),(77,f77_sp),(78,f78v1_sp)],fun X k s K=>none⟩
theorem f76v8_ok:OK (2) 76 (f76v8_s.sp f76v8_m):=
 fO (d:=1) (env:=f76v8_e) (callsL_sim (cc f82_ok (cc f77_ok (cc f78v1_ok cn)))) (fn:=Tryz.f76) (mc:=@f76v8_c) (by intros;simp only [f76v8_m,f76v8_c,nn]) (locs:=[5])
def f76v9_s:FS (Y20) (Y12) where
 sk:=⟨(.cons (.ptr 2 0) (.cons (.agg kInstr) (.cons (.ptr 0 0) (.cons (.ptr 1 0) .nil)))),[.opn (.cons (.fn 83 .nil) .nil),.opn (.cons .bool .nil),.opn kr4,.cells (.int .i64),.deep (.int .i64),.cells (.slice (.int .i64))],0⟩
 a:=fun u=>((q8 u.1.2.1),u.2.2.1.1,u.t3.1.1,u.t3.1.2.1,u.t3.1.2.2.1,u.t3.1.t3.1,u.t3.1.t4.1,u.t3.1.t5.1,u.t3.1.t6.1,u.t3.1.t7.1,u.t3.1.t8.1,u.t3.1.t9.1,u.t3.1.t11.1,u.t3.1.t12.1,u.t3.1.t13.1,u.t3.1.t14.1,u.t3.1.t15.1,u.t3.1.t16.1,u.t4.1,u.t5.1,u.t6.1)
 n:=fun a=>(((),((w8 a.1),((),((),())))),(((),()),((a.2.1,()),((a.2.2.1,(a.t3.1,(a.t4.1,(a.t5.1,(a.t6.1,(a.t7.1,(a.t8.1,(a.t9.1,(a.t10.1,(a.t11.1,((),(a.t12.1,(a.t13.1,(a.t14.1,(a.t15.1,(a.t16.1,(a.t17.1,((),((),((),())))))))))))))))))))),(w3 a.t18)))))
 o:=fun Z a r K=>K (.tup []) ⟨[.opn [.fn 83 []],.opn [.bool a.2.1],.opn [.lit cInstr a.2.2.1,.int .i64 a.t3.1,.int .i64 a.t4.1,.int .i64 a.t5.1,.lit cInput a.t6.1,.lit cScalar a.t7.1,.lit cInput a.t8.1,.lit cAlarm a.t9.1,.lit (.int .i64) a.t10.1,.int .i64 a.t11.1,.all 3,.int .i64 a.t12.1,.int .i64 r.1,.int .i64 r.2.1,.int .i64 r.2.2.1,.int .i64 a.t16.1,.int .i64 a.t17.1,.nils,.all 4,.all 5],.cells (.int .i64) r.t3,.deep (.int .i64) a.t19.1,.cells (.slice (.int .i64)) a.t20],0⟩
def f76v9_c {X:Type} (a:Y20) (K:(Y12)->Option X):Option X:=
 ask (V.inRange a.1.2.2.1 (List.length a.2.2.2.2.2.2.2.2.2.2.2.2.2.2.2.2.2.2.1)) (ask (V.inRange a.1.2.2.2.1 (List.length a.2.2.2.2.2.2.2.2.2.2.2.2.2.2.2.2.2.2.1)) (cond a.2.1
 ((f77_m ((wi64 ((gx a.2.2.2.2.2.2.2.2.2.2.2.2.2.2.2.2.2.2.1 (Int.toNat a.1.2.2.1) (0:Int))+(gx a.2.2.2.2.2.2.2.2.2.2.2.2.2.2.2.2.2.2.1 (Int.toNat a.1.2.2.2.1) (0:Int)))),3)).bind fun r1=>
 cond (!r1)
 (K (1,a.1.2.2.2.2.2.1,1,a.2.2.2.2.2.2.2.2.2.2.2.2.2.2.2.2.2.2.1))
 (ask (V.inRange a.1.2.1 (List.length a.2.2.2.2.2.2.2.2.2.2.2.2.2.2.2.2.2.2.1)) (K (a.2.2.2.2.2.2.2.2.2.2.2.2.2.1,a.2.2.2.2.2.2.2.2.2.2.2.2.2.2.1,a.2.2.2.2.2.2.2.2.2.2.2.2.2.2.2.1,(List.set a.2.2.2.2.2.2.2.2.2.2.2.2.2.2.2.2.2.2.1 (Int.toNat a.1.2.1) (wi64 ((gx a.2.2.2.2.2.2.2.2.2.2.2.2.2.2.2.2.2.2.1 (Int.toNat a.1.2.2.1) (0:Int))+(gx a.2.2.2.2.2.2.2.2.2.2.2.2.2.2.2.2.2.2.1 (Int.toNat a.1.2.2.2.1) (0:Int)))))))))
 (ask (V.inRange a.1.2.1 (List.length a.2.2.2.2.2.2.2.2.2.2.2.2.2.2.2.2.2.2.1)) (K (a.2.2.2.2.2.2.2.2.2.2.2.2.2.1,a.2.2.2.2.2.2.2.2.2.2.2.2.2.2.1,a.2.2.2.2.2.2.2.2.2.2.2.2.2.2.2.1,(List.set a.2.2.2.2.2.2.2.2.2.2.2.2.2.2.2.2.2.2.1 (Int.toNat a.1.2.1) (wi64 ((gx a.2.2.2.2.2.2.2.2.2.2.2.2.2.2.2.2.2.2.1 (Int.toNat a.1.2.2.1) (0:Int))+(gx a.2.2.2.2.2.2.2.2.2.2.2.2.2.2.2.2.2.2.1 (Int.toNat a.1.2.2.2.1) (0:Int))))))))))
def f76v9_m:=fun a=>f76v9_c a some
def f76v9_sp:Spec:=f76v9_s.sp f76v9_m
noncomputable def f76v9_e:Env:=⟨fun k=>[].contains k,callsL [(83,f83_sp),(77,f77_sp),(78,f78v1_sp)],fun X k s K=>none⟩
theorem f76v9_ok:OK (2) 76 (f76v9_s.sp f76v9_m):=
 fO (d:=1) (env:=f76v9_e) (callsL_sim (cc f83_ok (cc f77_ok (cc f78v1_ok cn)))) (fn:=Tryz.f76) (mc:=@f76v9_c) (by intros;simp only [f76v9_m,f76v9_c,nn]) (locs:=[5])
def f76v10_s:FS (Y20) (Y12) where
 sk:=⟨(.cons (.ptr 2 0) (.cons (.agg kInstr) (.cons (.ptr 0 0) (.cons (.ptr 1 0) .nil)))),[.opn (.cons (.fn 84 .nil) .nil),.opn (.cons .bool .nil),.opn kr4,.cells (.int .i64),.deep (.int .i64),.cells (.slice (.int .i64))],0⟩
 a:=fun u=>((q8 u.1.2.1),u.2.2.1.1,u.t3.1.1,u.t3.1.2.1,u.t3.1.2.2.1,u.t3.1.t3.1,u.t3.1.t4.1,u.t3.1.t5.1,u.t3.1.t6.1,u.t3.1.t7.1,u.t3.1.t8.1,u.t3.1.t9.1,u.t3.1.t11.1,u.t3.1.t12.1,u.t3.1.t13.1,u.t3.1.t14.1,u.t3.1.t15.1,u.t3.1.t16.1,u.t4.1,u.t5.1,u.t6.1)
 n:=fun a=>(((),((w8 a.1),((),((),())))),(((),()),((a.2.1,()),((a.2.2.1,(a.t3.1,(a.t4.1,(a.t5.1,(a.t6.1,(a.t7.1,(a.t8.1,(a.t9.1,(a.t10.1,(a.t11.1,((),(a.t12.1,(a.t13.1,(a.t14.1,(a.t15.1,(a.t16.1,(a.t17.1,((),((),((),())))))))))))))))))))),(w3 a.t18)))))
 o:=fun Z a r K=>K (.tup []) ⟨[.opn [.fn 84 []],.opn [.bool a.2.1],.opn [.lit cInstr a.2.2.1,.int .i64 a.t3.1,.int .i64 a.t4.1,.int .i64 a.t5.1,.lit cInput a.t6.1,.lit cScalar a.t7.1,.lit cInput a.t8.1,.lit cAlarm a.t9.1,.lit (.int .i64) a.t10.1,.int .i64 a.t11.1,.all 3,.int .i64 a.t12.1,.int .i64 r.1,.int .i64 r.2.1,.int .i64 r.2.2.1,.int .i64 a.t16.1,.int .i64 a.t17.1,.nils,.all 4,.all 5],.cells (.int .i64) r.t3,.deep (.int .i64) a.t19.1,.cells (.slice (.int .i64)) a.t20],0⟩
def f76v10_c {X:Type} (a:Y20) (K:(Y12)->Option X):Option X:=
 ask (V.inRange a.1.2.2.1 (List.length a.2.2.2.2.2.2.2.2.2.2.2.2.2.2.2.2.2.2.1)) (ask (V.inRange a.1.2.2.2.1 (List.length a.2.2.2.2.2.2.2.2.2.2.2.2.2.2.2.2.2.2.1)) (cond a.2.1
 ((f77_m ((wi64 ((gx a.2.2.2.2.2.2.2.2.2.2.2.2.2.2.2.2.2.2.1 (Int.toNat a.1.2.2.1) (0:Int))-(gx a.2.2.2.2.2.2.2.2.2.2.2.2.2.2.2.2.2.2.1 (Int.toNat a.1.2.2.2.1) (0:Int)))),3)).bind fun r1=>
 cond (!r1)
 (K (1,a.1.2.2.2.2.2.1,1,a.2.2.2.2.2.2.2.2.2.2.2.2.2.2.2.2.2.2.1))
 (ask (V.inRange a.1.2.1 (List.length a.2.2.2.2.2.2.2.2.2.2.2.2.2.2.2.2.2.2.1)) (K (a.2.2.2.2.2.2.2.2.2.2.2.2.2.1,a.2.2.2.2.2.2.2.2.2.2.2.2.2.2.1,a.2.2.2.2.2.2.2.2.2.2.2.2.2.2.2.1,(List.set a.2.2.2.2.2.2.2.2.2.2.2.2.2.2.2.2.2.2.1 (Int.toNat a.1.2.1) (wi64 ((gx a.2.2.2.2.2.2.2.2.2.2.2.2.2.2.2.2.2.2.1 (Int.toNat a.1.2.2.1) (0:Int))-(gx a.2.2.2.2.2.2.2.2.2.2.2.2.2.2.2.2.2.2.1 (Int.toNat a.1.2.2.2.1) (0:Int)))))))))
 (ask (V.inRange a.1.2.1 (List.length a.2.2.2.2.2.2.2.2.2.2.2.2.2.2.2.2.2.2.1)) (K (a.2.2.2.2.2.2.2.2.2.2.2.2.2.1,a.2.2.2.2.2.2.2.2.2.2.2.2.2.2.1,a.2.2.2.2.2.2.2.2.2.2.2.2.2.2.2.1,(List.set a.2.2.2.2.2.2.2.2.2.2.2.2.2.2.2.2.2.2.1 (Int.toNat a.1.2.1) (wi64 ((gx a.2.2.2.2.2.2.2.2.2.2.2.2.2.2.2.2.2.2.1 (Int.toNat a.1.2.2.1) (0:Int))-(gx a.2.2.2.2.2.2.2.2.2.2.2.2.2.2.2.2.2.2.1 (Int.toNat a.1.2.2.2.1) (0:Int))))))))))
def f76v10_m:=fun a=>f76v10_c a some
def f76v10_sp:Spec:=f76v10_s.sp f76v10_m
noncomputable def f76v10_e:Env:=⟨fun k=>[].contains k,callsL [(84,f84_sp),(77,f77_sp),(78,f78v1_sp)],fun X k s K=>none⟩
theorem f76v10_ok:OK (2) 76 (f76v10_s.sp f76v10_m):=
 fO (d:=1) (env:=f76v10_e) (callsL_sim (cc f84_ok (cc f77_ok (cc f78v1_ok cn)))) (fn:=Tryz.f76) (mc:=@f76v10_c) (by intros;simp only [f76v10_m,f76v10_c,nn]) (locs:=[5])
def f76v11_s:FS (Y20) (Y12) where
 sk:=⟨(.cons (.ptr 2 0) (.cons (.agg kInstr) (.cons (.ptr 0 0) (.cons (.ptr 1 0) .nil)))),[.opn (.cons (.fn 85 .nil) .nil),.opn (.cons .bool .nil),.opn kr4,.cells (.int .i64),.deep (.int .i64),.cells (.slice (.int .i64))],0⟩
 a:=fun u=>((q8 u.1.2.1),u.2.2.1.1,u.t3.1.1,u.t3.1.2.1,u.t3.1.2.2.1,u.t3.1.t3.1,u.t3.1.t4.1,u.t3.1.t5.1,u.t3.1.t6.1,u.t3.1.t7.1,u.t3.1.t8.1,u.t3.1.t9.1,u.t3.1.t11.1,u.t3.1.t12.1,u.t3.1.t13.1,u.t3.1.t14.1,u.t3.1.t15.1,u.t3.1.t16.1,u.t4.1,u.t5.1,u.t6.1)
 n:=fun a=>(((),((w8 a.1),((),((),())))),(((),()),((a.2.1,()),((a.2.2.1,(a.t3.1,(a.t4.1,(a.t5.1,(a.t6.1,(a.t7.1,(a.t8.1,(a.t9.1,(a.t10.1,(a.t11.1,((),(a.t12.1,(a.t13.1,(a.t14.1,(a.t15.1,(a.t16.1,(a.t17.1,((),((),((),())))))))))))))))))))),(w3 a.t18)))))
 o:=fun Z a r K=>K (.tup []) ⟨[.opn [.fn 85 []],.opn [.bool a.2.1],.opn [.lit cInstr a.2.2.1,.int .i64 a.t3.1,.int .i64 a.t4.1,.int .i64 a.t5.1,.lit cInput a.t6.1,.lit cScalar a.t7.1,.lit cInput a.t8.1,.lit cAlarm a.t9.1,.lit (.int .i64) a.t10.1,.int .i64 a.t11.1,.all 3,.int .i64 a.t12.1,.int .i64 r.1,.int .i64 r.2.1,.int .i64 r.2.2.1,.int .i64 a.t16.1,.int .i64 a.t17.1,.nils,.all 4,.all 5],.cells (.int .i64) r.t3,.deep (.int .i64) a.t19.1,.cells (.slice (.int .i64)) a.t20],0⟩
def f76v11_c {X:Type} (a:Y20) (K:(Y12)->Option X):Option X:=
 ask (V.inRange a.1.2.2.1 (List.length a.2.2.2.2.2.2.2.2.2.2.2.2.2.2.2.2.2.2.1)) (ask (V.inRange a.1.2.2.2.1 (List.length a.2.2.2.2.2.2.2.2.2.2.2.2.2.2.2.2.2.2.1)) (cond a.2.1
 ((f77_m ((wi64 ((gx a.2.2.2.2.2.2.2.2.2.2.2.2.2.2.2.2.2.2.1 (Int.toNat a.1.2.2.1) (0:Int)) * (gx a.2.2.2.2.2.2.2.2.2.2.2.2.2.2.2.2.2.2.1 (Int.toNat a.1.2.2.2.1) (0:Int)))),3)).bind fun r1=>
 cond (!r1)
 (K (1,a.1.2.2.2.2.2.1,1,a.2.2.2.2.2.2.2.2.2.2.2.2.2.2.2.2.2.2.1))
 (ask (V.inRange a.1.2.1 (List.length a.2.2.2.2.2.2.2.2.2.2.2.2.2.2.2.2.2.2.1)) (K (a.2.2.2.2.2.2.2.2.2.2.2.2.2.1,a.2.2.2.2.2.2.2.2.2.2.2.2.2.2.1,a.2.2.2.2.2.2.2.2.2.2.2.2.2.2.2.1,(List.set a.2.2.2.2.2.2.2.2.2.2.2.2.2.2.2.2.2.2.1 (Int.toNat a.1.2.1) (wi64 ((gx a.2.2.2.2.2.2.2.2.2.2.2.2.2.2.2.2.2.2.1 (Int.toNat a.1.2.2.1) (0:Int)) * (gx a.2.2.2.2.2.2.2.2.2.2.2.2.2.2.2.2.2.2.1 (Int.toNat a.1.2.2.2.1) (0:Int)))))))))
 (ask (V.inRange a.1.2.1 (List.length a.2.2.2.2.2.2.2.2.2.2.2.2.2.2.2.2.2.2.1)) (K (a.2.2.2.2.2.2.2.2.2.2.2.2.2.1,a.2.2.2.2.2.2.2.2.2.2.2.2.2.2.1,a.2.2.2.2.2.2.2.2.2.2.2.2.2.2.2.1,(List.set a.2.2.2.2.2.2.2.2.2.2.2.2.2.2.2.2.2.2.1 (Int.toNat a.1.2.1) (wi64 ((gx a.2.2.2.2.2.2.2.2.2.2.2.2.2.2.2.2.2.2.1 (Int.toNat a.1.2.2.1) (0:Int)) * (gx a.2.2.2.2.2.2.2.2.2.2.2.2.2.2.2.2.2.2.1 (Int.toNat a.1.2.2.2.1) (0:Int))))))))))
def f76v11_m:=fun a=>f76v11_c a some
def f76v11_sp:Spec:=f76v11_s.sp f76v11_m
noncomputable def f76v11_e:Env:=⟨fun k=>[].contains k,callsL [(85,f85_sp),(77,f77_sp),(78,f78v1_sp)],fun X k s K=>none⟩
theorem f76v11_ok:OK (2) 76 (f76v11_s.sp f76v11_m):=
 fO (d:=1) (env:=f76v11_e) (callsL_sim (cc f85_ok (cc f77_ok (cc f78v1_ok cn)))) (fn:=Tryz.f76) (mc:=@f76v11_c) (by intros;simp only [f76v11_m,f76v11_c,nn]) (locs:=[5])
end
end Go.U
end
