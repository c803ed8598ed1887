/- The functions of the program as Lean functions, and that the evaluator says so. -/
import Derived.Test.YtjenflkegbmkkaaGreatDoorC1
set_option linter.unusedVariables false
set_option linter.unusedSimpArgs false
set_option linter.unusedSectionVars false
section
set_option maxRecDepth 100000
namespace Go.U
open Go Go.Proofs
noncomputable section
variable {C:V.Callee}
def f34_s:FS (Unit) (Y2) where
 sk:=⟨.nil,[],0⟩
 a:=fun u=>()
 n:=fun a=>((),())
 o:=fun Z a r K=>K (.agg [.lit cInstr r.1,.int .i64 0,.int .i64 3,.int .i64 0,.lit cInput r.2.1,.lit cScalar r.2.2.1,.lit cInput r.t3.1,.lit cAlarm r.t4]) ⟨[],0⟩
def f34_c {X:Type} (a:Unit) (K:Y2->Option X):Option X:=
 K (([(17,(0,(0,(0,(0,(0,(1,(-1)))))))),(12,(1,(0,(0,(0,(0,(2,(-1)))))))),(13,(0,(1,(0,(0,(0,(3,(-1)))))))),(1,(2,(0,(0,(3,(0,(4,(-1)))))))),(15,(0,(0,(2,(15,(0,(6,5))))))),(21,(0,(0,(0,(0,(1,((-1),(-1)))))))),(18,(0,(0,(0,(0,(0,(0,(-1))))))))]:List TInstr),([((str [115]),(1,((-5),5)))]:List TInput),([((str [120]),(1,0))]:List TScalar),[],([(0,0),(0,32)]:List TAlarm))
def f34_m:=fun a=>f34_c a some
def f34_sp:Spec:=f34_s.sp f34_m
noncomputable def f34_e:Env:=⟨fun k=>[].contains k,callsL [],fun X k s K=>none⟩
theorem f34_ok:OK (1) 34 (f34_s.sp f34_m):=
 fO (d:=0) (env:=f34_e) (callsL_sim cn) (fn:=Tryz.f34) (mc:=@f34_c) (by intros;simp only [f34_m,f34_c,nn]) (locs:=[0]) (sh:=(.agg [(.lit cInstr),.any,.any,.any,(.lit cInput),(.lit cScalar),(.lit cInput),(.lit cAlarm)])) (fz:=true)
def f14_s:FS (TGraph) (Y3) where
 sk:=⟨(.cons (.agg kGraph) .nil),[],0⟩
 a:=fun u=>(q8 u.1.1)
 n:=fun a=>(((w8 a),()),())
 o:=fun Z a r K=>K (.agg [.all 0,.all 1,.all 2]) ⟨[.cells .bool r.1,.cells (.pair .bool .bool) r.2.1,.cells cAlarm r.2.2],0⟩
def f14_c {X:Type} (a:TGraph) (K:Y3->Option X):Option X:=
 ask (decide (0<=(nt (List.length a.1)))&&decide ((nt (List.length a.1))<=(nt (List.length a.1)))&&decide (1 * (nt (List.length a.1))<=70368744177664)&&decide ((nt (List.length a.1))<9223372036854775808)) (ask (decide (0<=(nt (List.length a.1)))&&decide ((nt (List.length a.1))<=(nt (List.length a.1)))&&decide (2 * (nt (List.length a.1))<=70368744177664)&&decide ((nt (List.length a.1))<9223372036854775808)) (K ((List.replicate (Int.toNat (nt (List.length a.1))) (false:Bool)),(List.replicate (Int.toNat (nt (List.length a.1))) ((false,false):(Bool×Bool))),[])))
def f14_m:=fun a=>f14_c a some
def f14_sp:Spec:=f14_s.sp f14_m
noncomputable def f14_e:Env:=⟨fun k=>[].contains k,callsL [],fun X k s K=>none⟩
theorem f14_ok:OK (1) 14 (f14_s.sp f14_m):=
 fO (d:=0) (env:=f14_e) (callsL_sim cn) (fn:=Tryz.f14) (mc:=@f14_c) (by intros;simp only [f14_m,f14_c,nn]) (locs:=[1,2]) (sh:=(.agg [(.own .bool),(.own (.pair .bool .bool)),(.own cAlarm)]))
def f55_s:FS (Y4) (Y5) where
 sk:=⟨(.cons (.agg kGraph) (.cons (.lit (.int .i64)) (.cons (.int .i64) .nil))),[],0⟩
 a:=fun u=>((q8 u.1.1),u.1.2.1,u.1.2.2.1)
 n:=fun a=>(((w8 a.1),(a.2.1,(a.2.2,()))),())
 o:=fun Z a r K=>K (.ptr 0 0) ⟨[.opn [.lit cInstr a.1.1,.int .i64 a.1.2.1,.int .i64 a.1.2.2.1,.int .i64 a.1.t3.1,.lit cInput a.1.t4.1,.lit cScalar a.1.t5.1,.lit cInput a.1.t6.1,.lit cAlarm a.1.t7,.lit (.int .i64) a.2.1,.int .i64 r.1,.all 1,.int .i64 0,.int .i64 0,.int .i64 0,.int .i64 0,.int .i64 0,.int .i64 0,.nils,.all 2,.nils],.cells (.int .i64) r.2.1,.deep (.int .i64) r.2.2],0⟩
def f55_l3:LD ((List TScalar)×Int×TGraph×TGraph×(List Int)×Int×Int×Int×Int×Int×Int×Int) (Int×(List Int)) ((List Int)) where
 sk:=⟨[(3,.loc 0 0),(7,.v (.ptr 0 0)),(24,.v (.lit cScalar)),(25,.v (.int .i64)),(26,.v (.int .i64))],[kGraph],[.opn (.cons (.lit cInstr) (.cons (.int .i64) (.cons (.int .i64) (.cons (.int .i64) (.cons (.lit cInput) (.cons (.lit cScalar) (.cons (.lit cInput) (.cons (.lit cAlarm) (.cons (.lit (.int .i64)) (.cons (.int .i64) (.cons (.all 1) (.cons (.int .i64) (.cons (.int .i64) (.cons (.int .i64) (.cons (.int .i64) (.cons (.int .i64) (.cons (.int .i64) (.cons .nils (.cons .nils (.cons .nils .nil)))))))))))))))))))),.cells (.int .i64)],0,0⟩
 p:=fun u=>(u.1.2.1,u.1.2.2.1,(q8 u.2.1.1),(q8 u.2.2.1),u.2.2.1.t8.1,u.2.2.1.t9.1,u.2.2.1.t11.1,u.2.2.1.t12.1,u.2.2.1.t13.1,u.2.2.1.t14.1,u.2.2.1.t15.1,u.2.2.1.t16.1)
 t:=fun u=>(u.1.t3.1,u.t3.1)
 n:=fun p t=>(((),(p.1,(p.2.1,(t.1,())))),(((w8 p.2.2.1),()),((p.t3.1.1,(p.t3.1.2.1,(p.t3.1.2.2.1,(p.t3.1.t3.1,(p.t3.1.t4.1,(p.t3.1.t5.1,(p.t3.1.t6.1,(p.t3.1.t7,(p.t4.1,(p.t5.1,((),(p.t6.1,(p.t7.1,(p.t8.1,(p.t9.1,(p.t10.1,(p.t11,((),((),((),())))))))))))))))))))),(t.2,()))))
 st:=fun Y p t ki ke=>cond (decide (t.1<p.2.1))
  (ask (V.inRange t.1 (List.length p.1)) (ask (V.inRange t.1 (List.length t.2)) (ki ((wi64 (t.1+(1:Int))),(List.set t.2 (Int.toNat t.1) (gx p.1 (Int.toNat t.1) dScalar).2.2)))))
  (ke (t.2))
 o:=fun Z p e K=>K (.exit 0) ⟨[(3,.loc 0 0),(7,.v (.ptr 0 0))],[[.lit cInstr p.2.2.1.1,.int .i64 p.2.2.1.2.1,.int .i64 p.2.2.1.2.2.1,.int .i64 p.2.2.1.t3.1,.lit cInput p.2.2.1.t4.1,.lit cScalar p.2.2.1.t5.1,.lit cInput p.2.2.1.t6.1,.lit cAlarm p.2.2.1.t7]],⟨[.opn [.lit cInstr p.t3.1.1,.int .i64 p.t3.1.2.1,.int .i64 p.t3.1.2.2.1,.int .i64 p.t3.1.t3.1,.lit cInput p.t3.1.t4.1,.lit cScalar p.t3.1.t5.1,.lit cInput p.t3.1.t6.1,.lit cAlarm p.t3.1.t7,.lit (.int .i64) p.t4.1,.int .i64 p.t5.1,.all 1,.int .i64 p.t6.1,.int .i64 p.t7.1,.int .i64 p.t8.1,.int .i64 p.t9.1,.int .i64 p.t10.1,.int .i64 p.t11,.nils,.nils,.nils],.cells (.int .i64) e],0⟩,0⟩
 pol:=⟨[3,7,24,25,26],[],[],[]⟩
 pe:=[(.exit 0,⟨[3,7],[],[],[]⟩)]
def f55_l12:LD ((List TInput)×Int×Int×Int×TInput×(TGraph×((List Int)×(Int×(Int×(Int×(Int×(Int×(Int×(Int×(List Int))))))))))×(List (List Int))) (Int×(List Int)) ((List Int)) where
 sk:=⟨[(7,.v (.ptr 0 0)),(11,.loc 0 0),(12,.v (.all 3)),(41,.v (.lit cInput)),(42,.v (.int .i64)),(43,.v (.int .i64)),(51,.v (.int .i64)),(52,.v (.int .i64))],[kInput],[.opn kr0,.cells (.int .i64),.deep (.int .i64),.cells (.int .i64)],0,0⟩
 p:=fun u=>(u.1.2.2.1,u.1.t3.1,u.1.t4.1,u.1.t5.1,(q4 u.2.1.1),((q8 u.2.2.1),(u.2.2.1.t8.1,(u.2.2.1.t9.1,(u.2.2.1.t11.1,(u.2.2.1.t12.1,(u.2.2.1.t13.1,(u.2.2.1.t14.1,(u.2.2.1.t15.1,(u.2.2.1.t16.1,u.t3.1))))))))),u.t4.1)
 t:=fun u=>(u.1.t6.1,u.t5.1)
 n:=fun p t=>(((),((),(p.1,(p.2.1,(p.2.2.1,(p.t3.1,(t.1,()))))))),(((w4 p.t4.1),()),((p.t5.1.1.1,(p.t5.1.1.2.1,(p.t5.1.1.2.2.1,(p.t5.1.1.t3.1,(p.t5.1.1.t4.1,(p.t5.1.1.t5.1,(p.t5.1.1.t6.1,(p.t5.1.1.t7,(p.t5.1.2.1,(p.t5.1.2.2.1,((),(p.t5.1.t3.1,(p.t5.1.t4.1,(p.t5.1.t5.1,(p.t5.1.t6.1,(p.t5.1.t7.1,(p.t5.1.t8.1,((),((),((),())))))))))))))))))))),(p.t5.1.t9,(p.t6,(t.2,()))))))
 st:=fun Y p t ki ke=>cond (decide (t.1<p.2.2.2.1))
  (ask (V.inRange t.1 (List.length t.2)) (ki ((wi64 (t.1+(1:Int))),(List.set t.2 (Int.toNat t.1) p.2.2.2.2.1.2.2.2))))
  (ke (t.2))
 o:=fun Z p e K=>K (.exit 4) ⟨[(7,.v (.ptr 0 0)),(12,.v (.all 3)),(41,.v (.lit cInput p.1)),(42,.v (.int .i64 p.2.1)),(43,.v (.int .i64 p.2.2.1))],[],⟨[.opn [.lit cInstr p.t5.1.1.1,.int .i64 p.t5.1.1.2.1,.int .i64 p.t5.1.1.2.2.1,.int .i64 p.t5.1.1.t3.1,.lit cInput p.t5.1.1.t4.1,.lit cScalar p.t5.1.1.t5.1,.lit cInput p.t5.1.1.t6.1,.lit cAlarm p.t5.1.1.t7,.lit (.int .i64) p.t5.1.2.1,.int .i64 p.t5.1.2.2.1,.all 1,.int .i64 p.t5.1.t3.1,.int .i64 p.t5.1.t4.1,.int .i64 p.t5.1.t5.1,.int .i64 p.t5.1.t6.1,.int .i64 p.t5.1.t7.1,.int .i64 p.t5.1.t8.1,.nils,.all 2,.nils],.cells (.int .i64) p.t5.1.t9,.deep (.int .i64) p.t6,.cells (.int .i64) e],0⟩,0⟩
 pol:=⟨[7,11,12,41,42,43,51,52],[],[],[]⟩
 pe:=[(.exit 4,⟨[7,12,41,42,43],[],[],[]⟩)]
def f55_l8:LD ((List TInput)×Int×TGraph×(List Int)×Int×Int×Int×Int×Int×Int×Int×(List Int)) (Y6) ((List (List Int))) where
 sk:=⟨[(7,.v (.ptr 0 0)),(41,.v (.lit cInput)),(42,.v (.int .i64)),(43,.v (.int .i64))],[],[.opn kr0,.cells (.int .i64),.deep (.int .i64)],0,0⟩
 p:=fun u=>(u.1.2.1,u.1.2.2.1,(q8 u.2.2.1),u.2.2.1.t8.1,u.2.2.1.t9.1,u.2.2.1.t11.1,u.2.2.1.t12.1,u.2.2.1.t13.1,u.2.2.1.t14.1,u.2.2.1.t15.1,u.2.2.1.t16.1,u.t3.1)
 t:=fun u=>(u.1.t3.1,u.t4.1)
 n:=fun p t=>(((),(p.1,(p.2.1,(t.1,())))),((),((p.2.2.1.1,(p.2.2.1.2.1,(p.2.2.1.2.2.1,(p.2.2.1.t3.1,(p.2.2.1.t4.1,(p.2.2.1.t5.1,(p.2.2.1.t6.1,(p.2.2.1.t7,(p.t3.1,(p.t4.1,((),(p.t5.1,(p.t6.1,(p.t7.1,(p.t8.1,(p.t9.1,(p.t10.1,((),((),((),())))))))))))))))))))),(p.t11,(t.2,())))))
 st:=fun Y p t ki ke=>cond (decide (t.1<p.2.1))
  (ask (V.inRange t.1 (List.length p.1)) (ask (decide (0<=(gx p.1 (Int.toNat t.1) dInput).2.2.1)&&decide ((gx p.1 (Int.toNat t.1) dInput).2.2.1<=(gx p.1 (Int.toNat t.1) dInput).2.2.1)&&decide (8 * (gx p.1 (Int.toNat t.1) dInput).2.2.1<=70368744177664)&&decide ((gx p.1 (Int.toNat t.1) dInput).2.2.1<9223372036854775808)) ((loopAll (f55_l12.m (p.1,p.2.1,t.1,(nt (List.length (List.replicate (Int.toNat (gx p.1 (Int.toNat t.1) dInput).2.2.1) (0:Int)))),(gx p.1 (Int.toNat t.1) dInput),p.2.2,t.2)) (0,(List.replicate (Int.toNat (gx p.1 (Int.toNat t.1) dInput).2.2.1) (0:Int)))).bind fun e1=>
  ask (decide (((List.length t.2)+(List.length ([e1]:List (List Int)))) * 24<=70368744177664)&&decide (((List.length t.2)+(List.length ([e1]:List (List Int))))<9223372036854775808)) (ki ((wi64 (t.1+(1:Int))),(t.2++([e1]:List (List Int))))))))
  (ke (t.2))
 o:=fun Z p e K=>K (.exit 2) ⟨[(7,.v (.ptr 0 0))],[],⟨[.opn [.lit cInstr p.2.2.1.1,.int .i64 p.2.2.1.2.1,.int .i64 p.2.2.1.2.2.1,.int .i64 p.2.2.1.t3.1,.lit cInput p.2.2.1.t4.1,.lit cScalar p.2.2.1.t5.1,.lit cInput p.2.2.1.t6.1,.lit cAlarm p.2.2.1.t7,.lit (.int .i64) p.t3.1,.int .i64 p.t4.1,.all 1,.int .i64 p.t5.1,.int .i64 p.t6.1,.int .i64 p.t7.1,.int .i64 p.t8.1,.int .i64 p.t9.1,.int .i64 p.t10.1,.nils,.all 2,.nils],.cells (.int .i64) p.t11,.deep (.int .i64) e],0⟩,0⟩
 pol:=⟨[7,41,42,43],[],[],[(0,[.any,.any,.any,.any,.any,.any,.any,.any,.any,.any,.any,.any,.any,.any,.any,.any,.any,.any,(.deep (.int .i64)),.any])]⟩
 pe:=[(.exit 2,⟨[7],[],[],[]⟩)]
def f55_c {X:Type} (a:Y4) (K:(Y5)->Option X):Option X:=
 ask (decide (0<=a.1.2.2.1)&&decide (a.1.2.2.1<=a.1.2.2.1)&&decide (8 * a.1.2.2.1<=70368744177664)&&decide (a.1.2.2.1<9223372036854775808)) ((loopAll (f55_l3.m (a.1.2.2.2.2.2.1,(nt (List.length a.1.2.2.2.2.2.1)),a.1,a.1,a.2.1,(if 0>a.2.2 then 0 else a.2.2),0,0,0,0,0,0)) (0,(List.replicate (Int.toNat a.1.2.2.1) (0:Int)))).bind fun e1=>
 (loopAll (f55_l8.m (a.1.2.2.2.2.2.2.1,(nt (List.length a.1.2.2.2.2.2.2.1)),a.1,a.2.1,(if 0>a.2.2 then 0 else a.2.2),0,0,0,0,0,0,e1)) (0,[])).bind fun e2=>
 K ((if 0>a.2.2 then 0 else a.2.2),e1,e2))
def f55_m:=fun a=>f55_c a some
def f55_sp:Spec:=f55_s.sp f55_m
noncomputable def f55_e:Env:=⟨fun k=>[].contains k,callsL [],fun X k s K=>if k=3 then f55_l3.q X s K else if k=12 then f55_l12.q X s K else if k=8 then f55_l8.q X s K else none⟩
noncomputable def f55_l3_c:Code:=subAt [1,1,0,1,0,0] (bodyOf Tryz.f55)
theorem f55_l3_ok (hc:SimCall C f55_e.call):LoopSim f55_e.loop (vc par C true [3,9,11] 75) (.loop f55_l3_c):=
 lO hc f55_l3 (by intros;simp only [f55_l3,LD.m,nn])
noncomputable def f55_l12_c:Code:=subAt [1,1,1,0,1,0,0,1,1,0,0,1,1,0,1,0,0] (bodyOf Tryz.f55)
theorem f55_l12_ok (hc:SimCall C f55_e.call):LoopSim f55_e.loop (vc par C true [3,9,11] 75) (.loop f55_l12_c):=
 lO hc f55_l12 (by intros;simp only [f55_l12,LD.m,nn])
noncomputable def f55_l8_c:Code:=subAt [1,1,1,0,1,0,0] (bodyOf Tryz.f55)
theorem f55_l8_ok (hc:SimCall C f55_e.call):LoopSim f55_e.loop (vc par C true [3,9,11] 75) (.loop f55_l8_c):=
 lO hc f55_l8 (by intros;simp only [f55_l8,LD.m,nn]) (hl:=(lp_of (by kernel_rfl) (lp_cons (f55_l12_ok hc) lp_nil)))
theorem f55_ok:OK (1) 55 (f55_s.sp f55_m):=
 fO (d:=0) (env:=f55_e) (callsL_sim cn) (fn:=Tryz.f55) (mc:=@f55_c) (by intros;simp only [f55_m,f55_c,nn]) (locs:=[3,9,11]) (hl:=fun hc=>(lp_of (by kernel_rfl) (lp_cons (f55_l3_ok hc) (lp_cons (f55_l8_ok hc) lp_nil))))
def f75_s:FS (Bool) (Unit) where
 sk:=⟨(.cons (.fn 81 .nil) (.cons .bool .nil)),[],0⟩
 a:=fun u=>u.1.2.1
 n:=fun a=>(((),(a,())),())
 o:=fun Z a r K=>K (.fn 76 [.ptr 0 0,.ptr 1 0]) ⟨[.opn [.fn 81 []],.opn [.bool a]],0⟩
def f75_c {X:Type} (a:Bool) (K:Unit->Option X):Option X:=
 K ()
def f75_m:=fun a=>f75_c a some
def f75_sp:Spec:=f75_s.sp f75_m
noncomputable def f75_e:Env:=⟨fun k=>[].contains k,callsL [],fun X k s K=>none⟩
theorem f75_ok:OK (1) 75 (f75_s.sp f75_m):=
 fO (d:=0) (env:=f75_e) (callsL_sim cn) (fn:=Tryz.f75) (mc:=@f75_c) (by intros;simp only [f75_m,f75_c,nn])
def f75v1_s:FS (Bool) (Unit) where
 sk:=⟨(.cons (.fn 82 .nil) (.cons .bool .nil)),[],0⟩
 a:=fun u=>u.1.2.1
 n:=fun a=>(((),(a,())),())
 o:=fun Z a r K=>K (.fn 76 [.ptr 0 0,.ptr 1 0]) ⟨[.opn [.fn 82 []],.opn [.bool a]],0⟩
def f75v1_c {X:Type} (a:Bool) (K:Unit->Option X):Option X:=
 K ()
def f75v1_m:=fun a=>f75v1_c a some
def f75v1_sp:Spec:=f75v1_s.sp f75v1_m
noncomputable def f75v1_e:Env:=⟨fun k=>[].contains k,callsL [],fun X k s K=>none⟩
theorem f75v1_ok:OK (1) 75 (f75v1_s.sp f75v1_m):=
 fO (d:=0) (env:=f75v1_e) (callsL_sim cn) (fn:=Tryz.f75) (mc:=@f75v1_c) (by intros;simp only [f75v1_m,f75v1_c,nn])
def f75v2_s:FS (Bool) (Unit) where
 sk:=⟨(.cons (.fn 83 .nil) (.cons .bool .nil)),[],0⟩
 a:=fun u=>u.1.2.1
 n:=fun a=>(((),(a,())),())
 o:=fun Z a r K=>K (.fn 76 [.ptr 0 0,.ptr 1 0]) ⟨[.opn [.fn 83 []],.opn [.bool a]],0⟩
def f75v2_c {X:Type} (a:Bool) (K:Unit->Option X):Option X:=
 K ()
def f75v2_m:=fun a=>f75v2_c a some
def f75v2_sp:Spec:=f75v2_s.sp f75v2_m
noncomputable def f75v2_e:Env:=⟨fun k=>[].contains k,callsL [],fun X k s K=>none⟩
theorem f75v2_ok:OK (1) 75 (f75v2_s.sp f75v2_m):=
 fO (d:=0) (env:=f75v2_e) (callsL_sim cn) (fn:=Tryz.f75) (mc:=@f75v2_c) (by intros;simp only [f75v2_m,f75v2_c,nn])
def f75v3_s:FS (Bool) (Unit) where
 sk:=⟨(.cons (.fn 84 .nil) (.cons .bool .nil)),[],0⟩
 a:=fun u=>u.1.2.1
 n:=fun a=>(((),(a,())),())
 o:=fun Z a r K=>K (.fn 76 [.ptr 0 0,.ptr 1 0]) ⟨[.opn [.fn 84 []],.opn [.bool a]],0⟩
def f75v3_c {X:Type} (a:Bool) (K:Unit->Option X):Option X:=
 K ()
def f75v3_m:=fun a=>f75v3_c a some
def f75v3_sp:Spec:=f75v3_s.sp f75v3_m
noncomputable def f75v3_e:Env:=⟨fun k=>[].contains k,callsL [],fun X k s K=>none⟩
theorem f75v3_ok:OK (1) 75 (f75v3_s.sp f75v3_m):=
 fO (d:=0) (env:=f75v3_e) (callsL_sim cn) (fn:=Tryz.f75) (mc:=@f75v3_c) (by intros;simp only [f75v3_m,f75v3_c,nn])
def f75v4_s:FS (Bool) (Unit) where
 sk:=⟨(.cons (.fn 85 .nil) (.cons .bool .nil)),[],0⟩
 a:=fun u=>u.1.2.1
 n:=fun a=>(((),(a,())),())
 o:=fun Z a r K=>K (.fn 76 [.ptr 0 0,.ptr 1 0]) ⟨[.opn [.fn 85 []],.opn [.bool a]],0⟩
def f75v4_c {X:Type} (a:Bool) (K:Unit->Option X):Option X:=
 K ()
def f75v4_m:=fun a=>f75v4_c a some
def f75v4_sp:Spec:=f75v4_s.sp f75v4_m
noncomputable def f75v4_e:Env:=⟨fun k=>[].contains k,callsL [],fun X k s K=>none⟩
theorem f75v4_ok:OK (1) 75 (f75v4_s.sp f75v4_m):=
 fO (d:=0) (env:=f75v4_e) (callsL_sim cn) (fn:=Tryz.f75) (mc:=@f75v4_c) (by intros;simp only [f75v4_m,f75v4_c,nn])
def f75v5_s:FS (Bool) (Unit) where
 sk:=⟨(.cons (.fn 87 .nil) (.cons .bool .nil)),[],0⟩
 a:=fun u=>u.1.2.1
 n:=fun a=>(((),(a,())),())
 o:=fun Z a r K=>K (.fn 76 [.ptr 0 0,.ptr 1 0]) ⟨[.opn [.fn 87 []],.opn [.bool a]],0⟩
def f75v5_c {X:Type} (a:Bool) (K:Unit->Option X):Option X:=
 K ()
def f75v5_m:=fun a=>f75v5_c a some
def f75v5_sp:Spec:=f75v5_s.sp f75v5_m
noncomputable def f75v5_e:Env:=⟨fun k=>[].contains k,callsL [],fun X k s K=>none⟩
theorem f75v5_ok:OK (1) 75 (f75v5_s.sp f75v5_m):=
 fO (d:=0) (env:=f75v5_e) (callsL_sim cn) (fn:=Tryz.f75) (mc:=@f75v5_c) (by intros;simp only [f75v5_m,f75v5_c,nn])
def f75v6_s:FS (Bool) (Unit) where
 sk:=⟨(.cons (.fn 88 .nil) (.cons .bool .nil)),[],0⟩
 a:=fun u=>u.1.2.1
 n:=fun a=>(((),(a,())),())
 o:=fun Z a r K=>K (.fn 76 [.ptr 0 0,.ptr 1 0]) ⟨[.opn [.fn 88 []],.opn [.bool a]],0⟩
def f75v6_c {X:Type} (a:Bool) (K:Unit->Option X):Option X:=
 K ()
def f75v6_m:=fun a=>f75v6_c a some
def f75v6_sp:Spec:=f75v6_s.sp f75v6_m
noncomputable def f75v6_e:Env:=⟨fun k=>[].contains k,callsL [],fun X k s K=>none⟩
theorem f75v6_ok:OK (1) 75 (f75v6_s.sp f75v6_m):=
 fO (d:=0) (env:=f75v6_e) (callsL_sim cn) (fn:=Tryz.f75) (mc:=@f75v6_c) (by intros;simp only [f75v6_m,f75v6_c,nn])
def f56_s:FS (Unit) (Unit) where
 sk:=⟨.nil,[],0⟩
 a:=fun u=>()
 n:=fun a=>((),())
 o:=fun Z a r K=>K (.agg [.nilf,.fn 80 [],.fn 76 [.ptr 0 0,.ptr 1 0],.fn 76 [.ptr 2 0,.ptr 3 0],.fn 76 [.ptr 4 0,.ptr 5 0],.fn 76 [.ptr 6 0,.ptr 7 0],.fn 76 [.ptr 8 0,.ptr 9 0],.fn 86 [],.fn 86 [],.fn 76 [.ptr 10 0,.ptr 11 0],.fn 76 [.ptr 12 0,.ptr 13 0],.fn 89 [],.fn 90 [],.fn 91 [],.fn 92 [],.fn 93 [],.fn 79 [],.fn 94 [],.fn 95 [],.fn 79 [],.fn 96 [],.fn 98 []]) ⟨[.opn [.fn 81 []],.opn [.bool true],.opn [.fn 82 []],.opn [.bool true],.opn [.fn 83 []],.opn [.bool true],.opn [.fn 84 []],.opn [.bool true],.opn [.fn 85 []],.opn [.bool true],.opn [.fn 87 []],.opn [.bool false],.opn [.fn 88 []],.opn [.bool false]],0⟩
def f56_c {X:Type} (a:Unit) (K:Unit->Option X):Option X:=
 K ()
def f56_m:=fun a=>f56_c a some
def f56_sp:Spec:=f56_s.sp f56_m
noncomputable def f56_e:Env:=⟨fun k=>[].contains k,callsL [(75,(alt f75_s.tk f75_sp (alt f75v1_s.tk f75v1_sp (alt f75v2_s.tk f75v2_sp (alt f75v3_s.tk f75v3_sp (alt f75v4_s.tk f75v4_sp (alt f75v5_s.tk f75v5_sp f75v6_sp)))))))],fun X k s K=>none⟩
theorem f56_ok:OK (2) 56 (f56_s.sp f56_m):=
 fO (d:=1) (env:=f56_e) (callsL_sim (cA f75_ok (cA f75v1_ok (cA f75v2_ok (cA f75v3_ok (cA f75v4_ok (cA f75v5_ok (cc f75v6_ok cn)))))))) (fn:=Tryz.f56) (mc:=@f56_c) (by intros;simp only [f56_m,f56_c,nn]) (locs:=[0])
def f66_s:FS (TInstr×(List Int)) (Bool) where
 sk:=⟨(.cons (.agg kInstr) (.cons (.all 0) .nil)),[.cells (.int .i64)],0⟩
 a:=fun u=>((q8 u.1.1),u.2.1)
 n:=fun a=>(((w8 a.1),((),())),(a.2,()))
 o:=fun Z a r K=>K (.bool r) ⟨[.cells (.int .i64) a.2],0⟩
def f66_c {X:Type} (a:TInstr×(List Int)) (K:Bool->Option X):Option X:=
 ask (V.inRange a.1.2.2.1 (List.length a.2)) (ask (V.inRange a.1.2.2.2.1 (List.length a.2)) (cond (decide ((wi64 (a.1.2.2.2.2.1-(14:Int)))=(0:Int)))
 (K (decide ((gx a.2 (Int.toNat a.1.2.2.1) (0:Int))=(gx a.2 (Int.toNat a.1.2.2.2.1) (0:Int)))))
 (cond (decide ((wi64 (a.1.2.2.2.2.1-(14:Int)))=(1:Int)))
 (K (!(decide ((gx a.2 (Int.toNat a.1.2.2.1) (0:Int))=(gx a.2 (Int.toNat a.1.2.2.2.1) (0:Int))))))
 (cond (decide ((wi64 (a.1.2.2.2.2.1-(14:Int)))=(2:Int)))
 (K (decide ((gx a.2 (Int.toNat a.1.2.2.1) (0:Int))<(gx a.2 (Int.toNat a.1.2.2.2.1) (0:Int)))))
 (cond (decide ((wi64 (a.1.2.2.2.2.1-(14:Int)))=(3:Int)))
 (K (decide ((gx a.2 (Int.toNat a.1.2.2.1) (0:Int))<=(gx a.2 (Int.toNat a.1.2.2.2.1) (0:Int)))))
 (cond (decide ((wi64 (a.1.2.2.2.2.1-(14:Int)))=(4:Int)))
 (K (decide ((gx a.2 (Int.toNat a.1.2.2.2.1) (0:Int))<(gx a.2 (Int.toNat a.1.2.2.1) (0:Int)))))
 (cond (decide ((wi64 (a.1.2.2.2.2.1-(14:Int)))=(5:Int)))
 (K (decide ((gx a.2 (Int.toNat a.1.2.2.2.1) (0:Int))<=(gx a.2 (Int.toNat a.1.2.2.1) (0:Int)))))
 (none))))))))
def f66_m:=fun a=>f66_c a some
def f66_sp:Spec:=f66_s.sp f66_m
noncomputable def f66_e:Env:=⟨fun k=>[].contains k,callsL [],fun X k s K=>none⟩
theorem f66_ok:OK (1) 66 (f66_s.sp f66_m):=
 fO (d:=0) (env:=f66_e) (callsL_sim cn) (fn:=Tryz.f66) (mc:=@f66_c) (by intros;simp only [f66_m,f66_c,nn]) (locs:=[2])
def f65_s:FS (Y7) (Y8) where
 sk:=⟨(.cons (.int .i64) (.cons (.all 7) (.cons (.all 8) (.cons (.int .i64) (.cons (.ptr 0 0) (.cons (.ptr 1 0) (.cons (.ptr 5 0) (.cons (.ptr 6 0) .nil)))))))),[.opn (.cons (.int .i64) .nil),.opn kr1,.cells .bool,.cells (.pair .bool .bool),.cells cAlarm,.opn (.cons (.int .i64) .nil),.opn kGraph,.cells (.int .i64),.deep (.int .i64)],0⟩
 a:=fun u=>(u.1.1,u.1.t3.1,u.2.1.1,u.t3.1,u.t4.1,u.t5.1,u.t6.1.1,u.t7.1.1,u.t7.1.2.1,u.t7.1.2.2.1,u.t7.1.t3.1,u.t7.1.t4.1,u.t7.1.t5.1,u.t7.1.t6.1,u.t7.1.t7.1,u.t8.1,u.t9.1)
 n:=fun a=>((a.1,((),((),(a.2.1,((),((),((),((),())))))))),((a.2.2.1,()),(((),((),((),()))),(a.t3.1,(a.t4.1,(a.t5.1,((a.t6.1,()),((a.t7.1,(a.t8.1,(a.t9.1,(a.t10.1,(a.t11.1,(a.t12.1,(a.t13.1,(a.t14.1,())))))))),(a.t15.1,(a.t16,()))))))))))
 o:=fun Z a r K=>K (.bool true) ⟨[.opn [.int .i64 a.1],.opn [.all 2,.all 3,.all 4],.cells .bool r.1,.cells (.pair .bool .bool) r.2.1,.cells cAlarm a.t5.1,.opn [.int .i64 r.2.2],.opn [.lit cInstr a.t7.1,.int .i64 a.t8.1,.int .i64 a.t9.1,.int .i64 a.t10.1,.lit cInput a.t11.1,.lit cScalar a.t12.1,.lit cInput a.t13.1,.lit cAlarm a.t14.1],.cells (.int .i64) a.t15.1,.deep (.int .i64) a.t16],0⟩
def f65_c {X:Type} (a:Y7) (K:Y8->Option X):Option X:=
 cond (decide ((0:Int)<=a.2.2.1))
 (ask (V.inRange a.2.2.1 (List.length a.2.2.2.2.1)) (cond (decide (a.2.2.2.2.2.2.1=(0:Int)))
 (ask (V.inRange a.1 (List.length a.2.2.2.1)) (ask (V.inRange a.1 (List.length a.2.2.2.2.2.2.2.1)) (cond (decide ((gx a.2.2.2.2.2.2.2.1 (Int.toNat a.1) dInstr).1=(15:Int)))
 ((f66_m ((gx a.2.2.2.2.2.2.2.1 (Int.toNat a.1) dInstr),a.2.2.2.2.2.2.2.2.2.2.2.2.2.2.2.1)).bind fun r1=>
 cond (!r1)
 (K ((List.set a.2.2.2.1 (Int.toNat a.1) true),(List.set a.2.2.2.2.1 (Int.toNat a.2.2.1) (true,(gx a.2.2.2.2.1 (Int.toNat a.2.2.1) (false,false)).2)),1))
 (K ((List.set a.2.2.2.1 (Int.toNat a.1) true),(List.set a.2.2.2.2.1 (Int.toNat a.2.2.1) (true,(gx a.2.2.2.2.1 (Int.toNat a.2.2.1) (false,false)).2)),0)))
 (K ((List.set a.2.2.2.1 (Int.toNat a.1) true),(List.set a.2.2.2.2.1 (Int.toNat a.2.2.1) (true,(gx a.2.2.2.2.1 (Int.toNat a.2.2.1) (false,false)).2)),0)))))
 (cond (decide (a.2.2.2.2.2.2.1=(1:Int)))
 (ask (V.inRange a.1 (List.length a.2.2.2.1)) (ask (V.inRange a.1 (List.length a.2.2.2.2.2.2.2.1)) (cond (decide ((gx a.2.2.2.2.2.2.2.1 (Int.toNat a.1) dInstr).1=(15:Int)))
 ((f66_m ((gx a.2.2.2.2.2.2.2.1 (Int.toNat a.1) dInstr),a.2.2.2.2.2.2.2.2.2.2.2.2.2.2.2.1)).bind fun r2=>
 cond (!r2)
 (K ((List.set a.2.2.2.1 (Int.toNat a.1) true),(List.set a.2.2.2.2.1 (Int.toNat a.2.2.1) ((gx a.2.2.2.2.1 (Int.toNat a.2.2.1) (false,false)).1,true)),1))
 (K ((List.set a.2.2.2.1 (Int.toNat a.1) true),(List.set a.2.2.2.2.1 (Int.toNat a.2.2.1) ((gx a.2.2.2.2.1 (Int.toNat a.2.2.1) (false,false)).1,true)),0)))
 (K ((List.set a.2.2.2.1 (Int.toNat a.1) true),(List.set a.2.2.2.2.1 (Int.toNat a.2.2.1) ((gx a.2.2.2.2.1 (Int.toNat a.2.2.1) (false,false)).1,true)),0)))))
 (none))))
 (ask (V.inRange a.1 (List.length a.2.2.2.1)) (ask (V.inRange a.1 (List.length a.2.2.2.2.2.2.2.1)) (cond (decide ((gx a.2.2.2.2.2.2.2.1 (Int.toNat a.1) dInstr).1=(15:Int)))
 ((f66_m ((gx a.2.2.2.2.2.2.2.1 (Int.toNat a.1) dInstr),a.2.2.2.2.2.2.2.2.2.2.2.2.2.2.2.1)).bind fun r3=>
 cond (!r3)
 (K ((List.set a.2.2.2.1 (Int.toNat a.1) true),a.2.2.2.2.1,1))
 (K ((List.set a.2.2.2.1 (Int.toNat a.1) true),a.2.2.2.2.1,0)))
 (K ((List.set a.2.2.2.1 (Int.toNat a.1) true),a.2.2.2.2.1,0)))))
def f65_m:=fun a=>f65_c a some
def f65_sp:Spec:=f65_s.sp f65_m
noncomputable def f65_e:Env:=⟨fun k=>[].contains k,callsL [(66,f66_sp)],fun X k s K=>none⟩
theorem f65_ok:OK (2) 65 (f65_s.sp f65_m):=
 fO (d:=1) (env:=f65_e) (callsL_sim (cc f66_ok cn)) (fn:=Tryz.f65) (mc:=@f65_c) (by intros;simp only [f65_m,f65_c,nn]) (locs:=[13])
def f81_s:FS (Int×Int) (Int) where
 sk:=⟨kAlarm,[],0⟩
 a:=fun u=>(u.1.1,u.1.2.1)
 n:=fun a=>((a.1,(a.2,())),())
 o:=fun Z a r K=>K (.int .i64 r) ⟨[],0⟩
def f81_c {X:Type} (a:Int×Int) (K:Int->Option X):Option X:=
 K (wi64 ((0:Int)-a.1))
def f81_m:=fun a=>f81_c a some
def f81_sp:Spec:=f81_s.sp f81_m
noncomputable def f81_e:Env:=⟨fun k=>[].contains k,callsL [],fun X k s K=>none⟩
theorem f81_ok:OK (1) 81 (f81_s.sp f81_m):=
 fO (d:=0) (env:=f81_e) (callsL_sim cn) (fn:=Tryz.f81) (mc:=@f81_c) (by intros;simp only [f81_m,f81_c,nn])
def f77_s:FS (Int×Int) (Bool) where
 sk:=⟨kAlarm,[],0⟩
 a:=fun u=>(u.1.1,u.1.2.1)
 n:=fun a=>((a.1,(a.2,())),())
 o:=fun Z a r K=>K (.bool r) ⟨[],0⟩
def f77_c {X:Type} (a:Int×Int) (K:Bool->Option X):Option X:=
 ask (decide ((0:Int)<=(wu64 a.2))) (ask (decide ((0:Int)<=(wu64 ((wu64 (4 * 2^min (Int.toNat (wu64 a.2)) 64))-(1:Int))))) (cond (decide ((wi64 ((0:Int)-(wi64 (1 * 2^min (Int.toNat (wu64 ((wu64 (4 * 2^min (Int.toNat (wu64 a.2)) 64))-(1:Int)))) 64))))<=a.1))
 (K (decide (a.1<(wi64 (1 * 2^min (Int.toNat (wu64 ((wu64 (4 * 2^min (Int.toNat (wu64 a.2)) 64))-(1:Int)))) 64)))))
 (K false)))
def f77_m:=fun a=>f77_c a some
def f77_sp:Spec:=f77_s.sp f77_m
noncomputable def f77_e:Env:=⟨fun k=>[].contains k,callsL [],fun X k s K=>none⟩
theorem f77_ok:OK (1) 77 (f77_s.sp f77_m):=
 fO (d:=0) (env:=f77_e) (callsL_sim cn) (fn:=Tryz.f77) (mc:=@f77_c) (by intros;simp only [f77_m,f77_c,nn])
def f82_s:FS (Int×Int) (Int) where
 sk:=⟨kAlarm,[],0⟩
 a:=fun u=>(u.1.1,u.1.2.1)
 n:=fun a=>((a.1,(a.2,())),())
 o:=fun Z a r K=>K (.int .i64 r) ⟨[],0⟩
def f82_c {X:Type} (a:Int×Int) (K:Int->Option X):Option X:=
 K (if (wi64 ((0:Int)-a.1))>a.1 then (wi64 ((0:Int)-a.1)) else a.1)
def f82_m:=fun a=>f82_c a some
def f82_sp:Spec:=f82_s.sp f82_m
noncomputable def f82_e:Env:=⟨fun k=>[].contains k,callsL [],fun X k s K=>none⟩
theorem f82_ok:OK (1) 82 (f82_s.sp f82_m):=
 fO (d:=0) (env:=f82_e) (callsL_sim cn) (fn:=Tryz.f82) (mc:=@f82_c) (by intros;simp only [f82_m,f82_c,nn])
def f83_s:FS (Int×Int) (Int) where
 sk:=⟨kAlarm,[],0⟩
 a:=fun u=>(u.1.1,u.1.2.1)
 n:=fun a=>((a.1,(a.2,())),())
 o:=fun Z a r K=>K (.int .i64 r) ⟨[],0⟩
def f83_c {X:Type} (a:Int×Int) (K:Int->Option X):Option X:=
 K (wi64 (a.1+a.2))
def f83_m:=fun a=>f83_c a some
def f83_sp:Spec:=f83_s.sp f83_m
noncomputable def f83_e:Env:=⟨fun k=>[].contains k,callsL [],fun X k s K=>none⟩
theorem f83_ok:OK (1) 83 (f83_s.sp f83_m):=
 fO (d:=0) (env:=f83_e) (callsL_sim cn) (fn:=Tryz.f83) (mc:=@f83_c) (by intros;simp only [f83_m,f83_c,nn])
def f84_s:FS (Int×Int) (Int) where
 sk:=⟨kAlarm,[],0⟩
 a:=fun u=>(u.1.1,u.1.2.1)
 n:=fun a=>((a.1,(a.2,())),())
 o:=fun Z a r K=>K (.int .i64 r) ⟨[],0⟩
def f84_c {X:Type} (a:Int×Int) (K:Int->Option X):Option X:=
 K (wi64 (a.1-a.2))
def f84_m:=fun a=>f84_c a some
def f84_sp:Spec:=f84_s.sp f84_m
noncomputable def f84_e:Env:=⟨fun k=>[].contains k,callsL [],fun X k s K=>none⟩
theorem f84_ok:OK (1) 84 (f84_s.sp f84_m):=
 fO (d:=0) (env:=f84_e) (callsL_sim cn) (fn:=Tryz.f84) (mc:=@f84_c) (by intros;simp only [f84_m,f84_c,nn])
end
end Go.U
end
