/- The functions of the program as Lean functions, and that the evaluator says so. -/
import Derived.Test.YtjenflkegbmkkaaGreatDoorC13
set_option linter.unusedVariables false
set_option linter.unusedSimpArgs false
set_option linter.unusedSectionVars false
section
set_option maxRecDepth 100000
namespace Go.U
open Go Go.Proofs
noncomputable section
variable {C:V.Callee}
def f12v1_s:FS (TGraph×Int×(List (List Int))) (Y3) where
 sk:=⟨(.cons (.agg kGraph) (.cons (.all 0) (.cons (.int .i64) .nil))),[.cells (.slice (.int .i64))],0⟩
 a:=fun u=>((q8 u.1.1),u.1.2.2.1,u.2.1)
 n:=fun a=>(((w8 a.1),((),(a.2.1,()))),(a.2.2,()))
 o:=fun Z a r K=>K (.agg [.all 1,.all 2,.all 3]) ⟨[.cells (.slice (.int .i64)) a.2.2,.cells .bool r.1,.cells (.pair .bool .bool) r.2.1,.cells cAlarm r.2.2],0⟩
def f12v1_l3:LD (Int×Int×TGraph×(List (List Int))) (Y30) (Y3) where
 sk:=⟨[(2,.v (.int .i64)),(3,.loc 0 0),(6,.loc 1 0),(7,.loc 2 0),(15,.v (.all 0)),(16,.v (.int .i64)),(17,.v (.int .i64))],[kGraph,(.cons .nils (.cons .nils (.cons .nils .nil))),(.cons (.all 1) (.cons (.all 2) (.cons (.all 3) .nil)))],[.cells (.slice (.int .i64)),.cells .bool,.cells (.pair .bool .bool),.cells cAlarm],0,1⟩
 p:=fun u=>(u.1.1,u.1.2.2.1,(q8 u.2.1.1),u.2.2.1)
 t:=fun u=>(u.1.t3.1,u.t3.1,u.t4.1,u.t5.1)
 n:=fun p t=>((p.1,((),(p.2.1,(t.1,())))),(((w8 p.2.2.1),(((),((),((),()))),(((),((),((),()))),()))),(p.t3,(w3 t.2))))
 st:=fun Y p t ki ke=>cond (decide (t.1<p.2.1))
  (ask (V.inRange t.1 (List.length p.2.2.2)) ((f37_m (p.2.2.1,(gx p.2.2.2 (Int.toNat t.1) []),p.1)).bind fun r1=>
  (f23_m (r1.1,t.2.1,t.2.2.1,t.2.2.2)).bind fun r2=>
  ki ((wi64 (t.1+(1:Int))),r2.1,r2.2.1,r2.2.2)))
  (ke ((t.2.1,t.2.2.1,t.2.2.2)))
 o:=fun Z p e K=>K (.exit 0) ⟨[(6,.loc 0 0),(7,.loc 1 0)],[[.nils,.nils,.nils],[.all 1,.all 2,.all 3]],⟨[.cells (.slice (.int .i64)) p.t3,.cells .bool e.1,.cells (.pair .bool .bool) e.2.1,.cells cAlarm e.2.2],0⟩,1⟩
 pol:=⟨[2,3,6,7,15,16,17],[],[],[]⟩
 pe:=[(.exit 0,⟨[6,7],[],[],[]⟩)]
def f12v1_c {X:Type} (a:TGraph×Int×(List (List Int))) (K:Y3->Option X):Option X:=
 (f14_m a.1).bind fun r1=>
 (loopAll (f12v1_l3.m (a.2.1,(nt (List.length a.2.2)),a.1,a.2.2)) (0,r1.1,r1.2.1,r1.2.2)).bind fun e2=>
 K (e2.1,e2.2.1,e2.2.2)
def f12v1_m:=fun a=>f12v1_c a some
def f12v1_sp:Spec:=f12v1_s.sp f12v1_m
noncomputable def f12v1_e:Env:=⟨fun k=>[].contains k,callsL [(14,f14_sp),(37,f37_sp),(23,f23_sp)],fun X k s K=>if k=3 then f12v1_l3.q X s K else none⟩
noncomputable def f12v1_l3_c:Code:=subAt [1,1,0,1,0,0] (bodyOf Tryz.f12)
theorem f12v1_l3_ok (hc:SimCall C f12v1_e.call):LoopSim f12v1_e.loop (vc par C true [3,6,7,10,11] 34) (.loop f12v1_l3_c):=
 lO hc f12v1_l3 (by intros;simp only [f12v1_l3,LD.m,nn])
theorem f12v1_ok:OK (7) 12 (f12v1_s.sp f12v1_m):=
 fO (d:=6) (env:=f12v1_e) (callsL_sim (cc f14_ok (cc f37_ok (cc f23_ok cn)))) (fn:=Tryz.f12) (mc:=@f12v1_c) (by intros;simp only [f12v1_m,f12v1_c,nn]) (locs:=[3,6,7,10,11]) (sh:=(.agg [(.own .bool),(.own (.pair .bool .bool)),(.own cAlarm)])) (hl:=fun hc=>(lp_of (by kernel_rfl) (lp_cons (f12v1_l3_ok hc) lp_nil)))
def f69v5_s:FS (Y37) (Y3) where
 sk:=⟨(.cons (.yl 4) (.cons (.ptr 0 0) .nil)),[.opn kr8,.cells .bool,.cells (.pair .bool .bool),.cells cAlarm,.loop 230003 [(5,(.ptr 5 0))] .ready .normal,.opn kr9,.cells .bool,.cells (.pair .bool .bool),.cells cAlarm],0⟩
 a:=fun u=>(u.2.2.1,u.t3.1,u.t4.1,u.t7.1,u.t8.1,u.t9.1)
 n:=fun a=>(((),((),())),(((),((),((),()))),(a.1,(a.2.1,(a.2.2.1,(((),()),(((),((),((),()))),(w3 a.t3))))))))
 o:=fun Z a r K=>K (.tup []) ⟨[.opn [.all 1,.all 2,.all 3],.cells .bool a.1,.cells (.pair .bool .bool) a.2.1,.cells cAlarm a.2.2.1,.loop 230003 [(5,.ptr 5 0)] .ready .normal,.opn [.all 6,.all 7,.all 9],.cells .bool r.1,.cells (.pair .bool .bool) r.2.1,.dead,.cells cAlarm r.2.2],0⟩
def f69v5_l1:LD (Y30) (Y30) (Y3) where
 sk:=⟨[(0,.v (.yl 4)),(1,.v (.ptr 0 0)),(12,.v (.all 1)),(13,.v (.int .i64)),(14,.v (.int .i64))],[],[.opn kr8,.cells .bool,.cells (.pair .bool .bool),.cells cAlarm,.loop 230003 [(5,(.ptr 5 0))] .ready .normal,.opn kr12,.cells .bool,.cells (.pair .bool .bool),.dead,.cells cAlarm],0,9⟩
 p:=fun u=>(u.1.t3.1,u.t3.1,u.t4.1,u.t5.1)
 t:=fun u=>(u.1.t4.1,u.t8.1,u.t9.1,u.t11.1)
 n:=fun p t=>(((),((),((),(p.1,(t.1,()))))),((),(((),((),((),()))),(p.2.1,(p.2.2.1,(p.t3,(((),()),(((),((),((),()))),(t.2.1,(t.2.2.1,((),(t.t3,()))))))))))))
 st:=fun Y p t ki ke=>cond (decide (t.1<p.1))
  (ask (V.inRange t.1 (List.length p.2.1)) (cond (gx p.2.1 (Int.toNat t.1) false)
  ((y230003_m (0,t.1,0,0,t.2.1,t.2.2.1,t.2.2.2)).bind fun r1=>
  Sum.elim (fun r2=>ki ((wi64 (t.1+(1:Int))),r2.1,r2.2,t.2.2.2))
  (fun r3=>ki ((wi64 (t.1+(1:Int))),t.2.1,t.2.2.1,r3)) r1)
  (ki ((wi64 (t.1+(1:Int))),t.2.1,t.2.2.1,t.2.2.2))))
  (ke ((t.2.1,t.2.2.1,t.2.2.2)))
 o:=fun Z p e K=>K (.exit 0) ⟨[(0,.v (.yl 4)),(1,.v (.ptr 0 0))],[],⟨[.opn [.all 1,.all 2,.all 3],.cells .bool p.2.1,.cells (.pair .bool .bool) p.2.2.1,.cells cAlarm p.t3,.loop 230003 [(5,.ptr 5 0)] .ready .normal,.opn [.all 6,.all 7,.all 9],.cells .bool e.1,.cells (.pair .bool .bool) e.2.1,.dead,.cells cAlarm e.2.2],0⟩,9⟩
 pol:=⟨[0,1,12,13,14],[],[],[(5,[.any,.any,(.mv cAlarm)])]⟩
 pe:=[(.exit 0,⟨[0,1],[],[],[]⟩)]
def f69v5_l9:LD (Y33) (Y30) (Y3) where
 sk:=⟨[(0,.v (.yl 4)),(1,.v (.ptr 0 0)),(5,.v (.int .i64)),(29,.v (.all 2)),(30,.v (.int .i64)),(31,.v (.int .i64)),(36,.v (.agg (.cons .bool (.cons .bool .nil)))),(37,.v (.int .i64))],[],[.opn kr8,.cells .bool,.cells (.pair .bool .bool),.cells cAlarm,.loop 230003 [(5,(.ptr 5 0))] .ready .normal,.opn kr12,.cells .bool,.cells (.pair .bool .bool),.dead,.cells cAlarm],0,9⟩
 p:=fun u=>(u.1.2.2.1,u.1.t4.1,u.1.t5.1,(u.1.t6.1.1,u.1.t6.1.2.1),(q3 u.t3))
 t:=fun u=>(u.1.t7.1,u.t8.1,u.t9.1,u.t11.1)
 n:=fun p t=>(((),((),(p.1,((),(p.2.1,(p.2.2.1,((p.t3.1.1,(p.t3.1.2,())),(t.1,())))))))),((),(((),((),((),()))),(p.t4.1,(p.t5.1,(p.t6,(((),()),(((),((),((),()))),(t.2.1,(t.2.2.1,((),(t.t3,()))))))))))))
 st:=fun Y p t ki ke=>cond (decide (t.1<(2:Int)))
  (cond (decide (t.1=(0:Int)))
  (cond p.2.2.2.1.1
  ((y230003_m ((wi64 ((1:Int)+t.1)),p.1,0,0,t.2.1,t.2.2.1,t.2.2.2)).bind fun r1=>
  Sum.elim (fun r2=>ki ((wi64 (t.1+(1:Int))),r2.1,r2.2,t.2.2.2))
  (fun r3=>ki ((wi64 (t.1+(1:Int))),t.2.1,t.2.2.1,r3)) r1)
  (ki ((wi64 (t.1+(1:Int))),t.2.1,t.2.2.1,t.2.2.2)))
  (cond (decide (t.1=(1:Int)))
  (cond p.2.2.2.1.2
  ((y230003_m ((wi64 ((1:Int)+t.1)),p.1,0,0,t.2.1,t.2.2.1,t.2.2.2)).bind fun r4=>
  Sum.elim (fun r5=>ki ((wi64 (t.1+(1:Int))),r5.1,r5.2,t.2.2.2))
  (fun r6=>ki ((wi64 (t.1+(1:Int))),t.2.1,t.2.2.1,r6)) r4)
  (ki ((wi64 (t.1+(1:Int))),t.2.1,t.2.2.1,t.2.2.2)))
  (none)))
  (ke ((t.2.1,t.2.2.1,t.2.2.2)))
 o:=fun Z p e K=>K (.exit 4) ⟨[(0,.v (.yl 4)),(1,.v (.ptr 0 0)),(29,.v (.all 2)),(30,.v (.int .i64 p.2.1)),(31,.v (.int .i64 p.2.2.1))],[],⟨[.opn [.all 1,.all 2,.all 3],.cells .bool p.t4.1,.cells (.pair .bool .bool) p.t5.1,.cells cAlarm p.t6,.loop 230003 [(5,.ptr 5 0)] .ready .normal,.opn [.all 6,.all 7,.all 9],.cells .bool e.1,.cells (.pair .bool .bool) e.2.1,.dead,.cells cAlarm e.2.2],0⟩,9⟩
 pol:=⟨[0,1,5,29,30,31,36,37],[],[],[]⟩
 pe:=[(.exit 4,⟨[0,1,29,30,31],[],[],[]⟩)]
def f69v5_l6:LD (Y30) (Y30) (Y3) where
 sk:=⟨[(0,.v (.yl 4)),(1,.v (.ptr 0 0)),(29,.v (.all 2)),(30,.v (.int .i64)),(31,.v (.int .i64))],[],[.opn kr8,.cells .bool,.cells (.pair .bool .bool),.cells cAlarm,.loop 230003 [(5,(.ptr 5 0))] .ready .normal,.opn kr12,.cells .bool,.cells (.pair .bool .bool),.dead,.cells cAlarm],0,9⟩
 p:=fun u=>(u.1.t3.1,u.t3.1,u.t4.1,u.t5.1)
 t:=fun u=>(u.1.t4.1,u.t8.1,u.t9.1,u.t11.1)
 n:=fun p t=>(((),((),((),(p.1,(t.1,()))))),((),(((),((),((),()))),(p.2.1,(p.2.2.1,(p.t3,(((),()),(((),((),((),()))),(t.2.1,(t.2.2.1,((),(t.t3,()))))))))))))
 st:=fun Y p t ki ke=>cond (decide (t.1<p.1))
  (ask (V.inRange t.1 (List.length p.2.2.1)) ((loopAll (f69v5_l9.m (t.1,p.1,t.1,(gx p.2.2.1 (Int.toNat t.1) (false,false)),p.2)) (0,t.2.1,t.2.2.1,t.2.2.2)).bind fun e1=>
  ki ((wi64 (t.1+(1:Int))),e1.1,e1.2.1,e1.2.2)))
  (ke ((t.2.1,t.2.2.1,t.2.2.2)))
 o:=fun Z p e K=>K (.exit 2) ⟨[(0,.v (.yl 4)),(1,.v (.ptr 0 0))],[],⟨[.opn [.all 1,.all 2,.all 3],.cells .bool p.2.1,.cells (.pair .bool .bool) p.2.2.1,.cells cAlarm p.t3,.loop 230003 [(5,.ptr 5 0)] .ready .normal,.opn [.all 6,.all 7,.all 9],.cells .bool e.1,.cells (.pair .bool .bool) e.2.1,.dead,.cells cAlarm e.2.2],0⟩,9⟩
 pol:=⟨[0,1,29,30,31],[],[],[]⟩
 pe:=[(.exit 2,⟨[0,1],[],[],[]⟩)]
def f69v5_l15:LD (Y30) (Y30) (Y3) where
 sk:=⟨[(0,.v (.yl 4)),(54,.v (.all 3)),(55,.v (.int .i64)),(56,.v (.int .i64))],[],[.opn kr8,.cells .bool,.cells (.pair .bool .bool),.cells cAlarm,.loop 230003 [(5,(.ptr 5 0))] .ready .normal,.opn kr12,.cells .bool,.cells (.pair .bool .bool),.dead,.cells cAlarm],0,9⟩
 p:=fun u=>(u.1.2.2.1,u.t3.1,u.t4.1,u.t5.1)
 t:=fun u=>(u.1.t3.1,u.t8.1,u.t9.1,u.t11.1)
 n:=fun p t=>(((),((),(p.1,(t.1,())))),((),(((),((),((),()))),(p.2.1,(p.2.2.1,(p.t3,(((),()),(((),((),((),()))),(t.2.1,(t.2.2.1,((),(t.t3,()))))))))))))
 st:=fun Y p t ki ke=>cond (decide (t.1<p.1))
  (ask (V.inRange t.1 (List.length p.2.2.2)) ((y230003_m (3,0,(gx p.2.2.2 (Int.toNat t.1) dAlarm).1,(gx p.2.2.2 (Int.toNat t.1) dAlarm).2,t.2.1,t.2.2.1,t.2.2.2)).bind fun r1=>
  Sum.elim (fun r2=>ki ((wi64 (t.1+(1:Int))),r2.1,r2.2,t.2.2.2))
  (fun r3=>ki ((wi64 (t.1+(1:Int))),t.2.1,t.2.2.1,r3)) r1))
  (ke ((t.2.1,t.2.2.1,t.2.2.2)))
 o:=fun Z p e K=>K (.exit 6) ⟨[],[],⟨[.opn [.all 1,.all 2,.all 3],.cells .bool p.2.1,.cells (.pair .bool .bool) p.2.2.1,.cells cAlarm p.t3,.loop 230003 [(5,.ptr 5 0)] .ready .normal,.opn [.all 6,.all 7,.all 9],.cells .bool e.1,.cells (.pair .bool .bool) e.2.1,.dead,.cells cAlarm e.2.2],0⟩,9⟩
 pol:=⟨[0,54,55,56],[],[],[]⟩
 pe:=[(.exit 6,⟨[],[],[],[]⟩)]
def f69v5_c {X:Type} (a:Y37) (K:Y3->Option X):Option X:=
 (loopAll (f69v5_l1.m ((nt (List.length a.1)),a.1,a.2.1,a.2.2.1)) (0,a.2.2.2.1,a.2.2.2.2.1,a.2.2.2.2.2)).bind fun e1=>
 (loopAll (f69v5_l6.m ((nt (List.length a.2.1)),a.1,a.2.1,a.2.2.1)) (0,e1.1,e1.2.1,e1.2.2)).bind fun e2=>
 (loopAll (f69v5_l15.m ((nt (List.length a.2.2.1)),a.1,a.2.1,a.2.2.1)) (0,e2.1,e2.2.1,e2.2.2)).bind fun e3=>
 K (e3.1,e3.2.1,e3.2.2)
def f69v5_m:=fun a=>f69v5_c a some
def f69v5_sp:Spec:=f69v5_s.sp f69v5_m
noncomputable def f69v5_e:Env:=⟨fun k=>[].contains k,callsYL [] [(230003,y230003_sp)],fun X k s K=>if k=1 then f69v5_l1.q X s K else if k=9 then f69v5_l9.q X s K else if k=6 then f69v5_l6.q X s K else if k=15 then f69v5_l15.q X s K else none⟩
noncomputable def f69v5_l1_c:Code:=subAt [0,1,0,0] (bodyOf Tryz.f69)
theorem f69v5_l1_ok (hc:SimCall C f69v5_e.call):LoopSim f69v5_e.loop (vc par C true [6,10] 66) (.loop f69v5_l1_c):=
 lO hc f69v5_l1 (by intros;simp only [f69v5_l1,LD.m,nn])
noncomputable def f69v5_l9_c:Code:=subAt [1,0,1,0,0,1,1,0,0,1,1,0,0] (bodyOf Tryz.f69)
theorem f69v5_l9_ok (hc:SimCall C f69v5_e.call):LoopSim f69v5_e.loop (vc par C true [6,10] 66) (.loop f69v5_l9_c):=
 lO hc f69v5_l9 (by intros;simp only [f69v5_l9,LD.m,nn])
noncomputable def f69v5_l6_c:Code:=subAt [1,0,1,0,0] (bodyOf Tryz.f69)
theorem f69v5_l6_ok (hc:SimCall C f69v5_e.call):LoopSim f69v5_e.loop (vc par C true [6,10] 66) (.loop f69v5_l6_c):=
 lO hc f69v5_l6 (by intros;simp only [f69v5_l6,LD.m,nn]) (hl:=(lp_of (by kernel_rfl) (lp_cons (f69v5_l9_ok hc) lp_nil)))
noncomputable def f69v5_l15_c:Code:=subAt [1,1,1,0,0] (bodyOf Tryz.f69)
theorem f69v5_l15_ok (hc:SimCall C f69v5_e.call):LoopSim f69v5_e.loop (vc par C true [6,10] 66) (.loop f69v5_l15_c):=
 lO hc f69v5_l15 (by intros;simp only [f69v5_l15,LD.m,nn])
theorem f69v5_ok:OK (5) 69 (f69v5_s.sp f69v5_m):=
 fO (d:=4) (env:=f69v5_e) (callsYL_sim cn (ccy y230003_ok cyn)) (fn:=Tryz.f69) (mc:=@f69v5_c) (by intros;simp only [f69v5_m,f69v5_c,nn]) (locs:=[6,10]) (hl:=fun hc=>(lp_of (by kernel_rfl) (lp_cons (f69v5_l1_ok hc) (lp_cons (f69v5_l6_ok hc) (lp_cons (f69v5_l15_ok hc) lp_nil)))))
def f23v2_s:FS (Y37) (Y3) where
 sk:=⟨(.cons (.agg (.cons (.all 0) (.cons (.all 1) (.cons (.all 2) .nil)))) (.cons (.agg (.cons (.all 3) (.cons (.all 4) (.cons (.all 5) .nil)))) .nil)),[.cells .bool,.cells (.pair .bool .bool),.cells cAlarm,.cells .bool,.cells (.pair .bool .bool),.cells cAlarm],0⟩
 a:=fun u=>(u.2.1,u.2.2.1,u.t3.1,u.t4.1,u.t5.1,u.t6.1)
 n:=fun a=>((((),((),((),()))),(((),((),((),()))),())),(w6 a))
 o:=fun Z a r K=>K (.agg [.all 6,.all 7,.all 8]) ⟨[.cells .bool a.1,.cells (.pair .bool .bool) a.2.1,.cells cAlarm a.2.2.1,.cells .bool a.t3.1,.cells (.pair .bool .bool) a.t4.1,.cells cAlarm a.t5,.cells .bool r.1,.cells (.pair .bool .bool) r.2.1,.cells cAlarm r.2.2],0⟩
def f23v2_q3:PD (((List Bool)×(Y38))×Y3) (Y3) where
 sk:=⟨[(4,.v (.ptr 6 0)),(5,.v (.ptr 7 0)),(18,.v (.fn 69 (.cons (.ptr 11 0) .nil)))],[],[.cells .bool,.cells (.pair .bool .bool),.cells cAlarm,.cells .bool,.cells (.pair .bool .bool),.cells cAlarm,.opn (.cons .nils (.cons .nils (.cons .nils .nil))),.opn (.cons (.all 8) (.cons (.all 9) (.cons (.all 10) .nil))),.cells .bool,.cells (.pair .bool .bool),.cells cAlarm,.opn kr6],0,6⟩
 p:=fun u=>((q6 u.2.2),u.t10.1,u.t11.1,u.t12.1)
 n:=fun p=>(((),((),(((),()),()))),((),(p.1.1,(p.1.2.1,(p.1.2.2.1,(p.1.t3.1,(p.1.t4.1,(p.1.t5,(((),((),((),()))),(((),((),((),()))),(p.2.1,(p.2.2.1,(p.t3,(((),((),((),()))),()))))))))))))))
 st:=fun Y p ke=>(f69v5_m (p.1.2.2.2.1,p.1.2.2.2.2.1,p.1.2.2.2.2.2,p.2.1,p.2.2.1,p.2.2.2)).bind fun r1=>
  ke ((r1.1,r1.2.1,r1.2.2))
 o:=fun Z p e K=>K .normal ⟨[(4,.v (.ptr 6 0)),(5,.v (.ptr 7 0))],[],⟨[.cells .bool p.1.1,.cells (.pair .bool .bool) p.1.2.1,.cells cAlarm p.1.2.2.1,.cells .bool p.1.t3.1,.cells (.pair .bool .bool) p.1.t4.1,.cells cAlarm p.1.t5,.opn [.nils,.nils,.nils],.opn [.all 8,.all 9,.all 10],.cells .bool e.1,.cells (.pair .bool .bool) e.2.1,.cells cAlarm e.2.2],0⟩,6⟩
 pol:=⟨[4,5,18],[],[],[]⟩
 pe:=[(.normal,⟨[4,5],[],[],[]⟩)]
def f23v2_c {X:Type} (a:Y37) (K:Y3->Option X):Option X:=
 (f47_m a.1).bind fun r1=>
 (f48_m a.2.1).bind fun r2=>
 (f49_m a.2.2.1).bind fun r3=>
 (f23v2_q3.m (a,r1,r2,r3)).bind fun e4=>
 (f51_m e4.2.2).bind fun r5=>
 K (e4.1,e4.2.1,r5)
def f23v2_m:=fun a=>f23v2_c a some
def f23v2_sp:Spec:=f23v2_s.sp f23v2_m
noncomputable def f23v2_e:Env:=⟨fun k=>[].contains k,callsL [(47,f47_sp),(48,f48_sp),(49,f49_sp),(43,f43v1_sp),(69,f69v5_sp),(51,f51_sp)],fun X k s K=>if k=3 then f23v2_q3.q X s K else none⟩
theorem f23v2_q3_ok (hc:SimCall C f23v2_e.call):LoopSim f23v2_e.loop (vc par C true [] 63) (.rangeFunc (rfG (subAt [1,1,0,1,0] (bodyOf Tryz.f23))) (rfPs (subAt [1,1,0,1,0] (bodyOf Tryz.f23))) (rfA (subAt [1,1,0,1,0] (bodyOf Tryz.f23))) (rfB (subAt [1,1,0,1,0] (bodyOf Tryz.f23)))):=
 rO (env:=f23v2_e) hc (id:=230003) (ks:=[5]) f23v2_q3 (by intros;simp only [f23v2_q3,PD.m,nn])
theorem f23v2_ok:OK (6) 23 (f23v2_s.sp f23v2_m):=
 fO (d:=5) (env:=f23v2_e) (callsL_sim (cc f47_ok (cc f48_ok (cc f49_ok (cc f43v1_ok (cc f69v5_ok (cc f51_ok cn))))))) (fn:=Tryz.f23) (mc:=@f23v2_c) (by intros;simp only [f23v2_m,f23v2_c,nn]) (sh:=(.agg [(.own .bool),(.own (.pair .bool .bool)),(.own cAlarm)])) (hl:=fun hc=>(lp_of (by kernel_rfl) (lp_cons (f23v2_q3_ok hc) lp_nil)))
def f5_s:FS (Y57) (Bool) where
 sk:=⟨(.cons (.agg kGraph) (.cons (.lit (.slice (.int .i64))) (.cons (.lit (.slice (.int .i64))) (.cons (.int .i64) .nil)))),[],0⟩
 a:=fun u=>((q8 u.1.1),u.1.2.1,u.1.2.2.1,u.1.t3.1)
 n:=fun a=>(((w8 a.1),(w3 a.2)),())
 o:=fun Z a r K=>K (.bool r) ⟨[],0⟩
def f5_l13:LD (TCover×TCover) (Int) ((Unit) ⊕ (Unit)) where
 sk:=⟨[(10,.loc 0 0),(12,.loc 1 0),(13,.v (.int .i64))],[(.cons (.all 0) (.cons (.all 1) (.cons (.all 2) .nil))),(.cons (.all 3) (.cons (.all 4) (.cons (.all 5) .nil)))],[.cells .bool,.cells (.pair .bool .bool),.cells cAlarm,.cells .bool,.cells (.pair .bool .bool),.cells cAlarm],0,0⟩
 p:=fun u=>((q3 u.2.2),(q3 u.t5))
 t:=fun u=>u.1.1
 n:=fun p t=>((t,()),((((),((),((),()))),(((),((),((),()))),())),(p.1.1,(p.1.2.1,(p.1.2.2,(w3 p.2))))))
 st:=fun Y p t ki ke=>cond (decide (t<(nt (List.length p.1.1))))
  (ask (V.inRange t (List.length p.1.1)) (cond (gx p.1.1 (Int.toNat t) false)
  (ask (V.inRange t (List.length p.2.1)) (cond (!(gx p.2.1 (Int.toNat t) false))
  (ke (.inl ()))
  (ask (V.inRange t (List.length p.1.2.1)) (cond (gx p.1.2.1 (Int.toNat t) (false,false)).1
  (ask (V.inRange t (List.length p.2.2.1)) (cond (!(gx p.2.2.1 (Int.toNat t) (false,false)).1)
  (ke (.inl ()))
  (ask (V.inRange t (List.length p.1.2.1)) (cond (gx p.1.2.1 (Int.toNat t) (false,false)).2
  (ask (V.inRange t (List.length p.2.2.1)) (cond (!(gx p.2.2.1 (Int.toNat t) (false,false)).2)
  (ke (.inl ()))
  (ki ((wi64 (t+(1:Int)))))))
  (ki ((wi64 (t+(1:Int)))))))))
  (ask (V.inRange t (List.length p.1.2.1)) (cond (gx p.1.2.1 (Int.toNat t) (false,false)).2
  (ask (V.inRange t (List.length p.2.2.1)) (cond (!(gx p.2.2.1 (Int.toNat t) (false,false)).2)
  (ke (.inl ()))
  (ki ((wi64 (t+(1:Int)))))))
  (ki ((wi64 (t+(1:Int)))))))))))
  (ask (V.inRange t (List.length p.1.2.1)) (cond (gx p.1.2.1 (Int.toNat t) (false,false)).1
  (ask (V.inRange t (List.length p.2.2.1)) (cond (!(gx p.2.2.1 (Int.toNat t) (false,false)).1)
  (ke (.inl ()))
  (ask (V.inRange t (List.length p.1.2.1)) (cond (gx p.1.2.1 (Int.toNat t) (false,false)).2
  (ask (V.inRange t (List.length p.2.2.1)) (cond (!(gx p.2.2.1 (Int.toNat t) (false,false)).2)
  (ke (.inl ()))
  (ki ((wi64 (t+(1:Int)))))))
  (ki ((wi64 (t+(1:Int)))))))))
  (ask (V.inRange t (List.length p.1.2.1)) (cond (gx p.1.2.1 (Int.toNat t) (false,false)).2
  (ask (V.inRange t (List.length p.2.2.1)) (cond (!(gx p.2.2.1 (Int.toNat t) (false,false)).2)
  (ke (.inl ()))
  (ki ((wi64 (t+(1:Int)))))))
  (ki ((wi64 (t+(1:Int)))))))))))
  (ke (.inr (())))
 o:=fun Z p e K=>Sum.elim (fun e=>K .ret ⟨[(8,.v (.bool false))],[],⟨[],0⟩,0⟩) (fun e=>K (.exit 0) ⟨[],[],⟨[],0⟩,0⟩) e
 pol:=⟨[10,12,13],[],[],[]⟩
 pe:=[(.ret,⟨[8],[],[],[]⟩),(.exit 0,⟨[],[],[],[]⟩)]
def f5_c {X:Type} (a:Y57) (K:Bool->Option X):Option X:=
 (f8_m a.1).bind fun r1=>
 cond (!r1)
 ((f9_m ()).bind fun r2=>
 K r2)
 ((f10_m a.2.2.2).bind fun r3=>
 ask (decide ((List.length a.2.1) * 24<=70368744177664)&&decide ((List.length a.2.1)<9223372036854775808)) (ask (decide (((List.length a.2.1)+(List.length a.2.2.1)) * 24<=70368744177664)&&decide (((List.length a.2.1)+(List.length a.2.2.1))<9223372036854775808)) ((f12_m (a.1,a.2.1,r3)).bind fun r4=>
 (f12v1_m (a.1,r3,(a.2.1++a.2.2.1))).bind fun r5=>
 (f12_m (a.1,a.2.1,(wi64 ((if 0>r3 then 0 else r3)+(20:Int))))).bind fun r6=>
 (f12_m (a.1,a.2.2.1,r3)).bind fun r7=>
 (f23v2_m (r4.1,r4.2.1,r4.2.2,r7.1,r7.2.1,r7.2.2)).bind fun r8=>
 (f13_m (r5.1,r5.2.1,r5.2.2,r8.1,r8.2.1,r8.2.2)).bind fun r9=>
 cond (!r9)
 (K false)
 ((f24_m (r4.1,r4.2.1,r4.2.2,r5.1,r5.2.1,r5.2.2)).bind fun r10=>
 cond (!r10)
 (K false)
 (cond (!(decide ((nt (List.length r4.1))=(nt (List.length a.1.1)))))
 (K false)
 (cond (!(decide ((nt (List.length r6.1))=(nt (List.length a.1.1)))))
 (K false)
 ((loopAll (f5_l13.m (r4,r6)) 0).bind fun e11=>
 Sum.elim (fun e12=>K false)
 (fun e13=>(f9_m ()).bind fun r14=>
 K r14) e11)))))))
def f5_m:=fun a=>f5_c a some
def f5_sp:Spec:=f5_s.sp f5_m
noncomputable def f5_e:Env:=⟨fun k=>[].contains k,callsL [(8,f8_sp),(9,f9_sp),(10,f10_sp),(12,(alt f12_s.tk f12_sp f12v1_sp)),(23,f23v2_sp),(13,f13_sp),(24,f24_sp)],fun X k s K=>if k=13 then f5_l13.q X s K else none⟩
noncomputable def f5_l13_c:Code:=subAt [1,1,1,1,1,1,1,1,1,1,0,1,0,0] (bodyOf Tryz.f5)
theorem f5_l13_ok (hc:SimCall C f5_e.call):LoopSim f5_e.loop (vc par C true [4,10,11,12] 128) (.loop f5_l13_c):=
 lO hc f5_l13 (by intros;simp only [f5_l13,LD.m,nn])
theorem f5_ok:OK (9) 5 (f5_s.sp f5_m):=
 fO (d:=8) (env:=f5_e) (callsL_sim (cc f8_ok (cc f9_ok (cc f10_ok (cA f12_ok (cc f12v1_ok (cc f23v2_ok (cc f13_ok (cc f24_ok cn))))))))) (fn:=Tryz.f5) (mc:=@f5_c) (by intros;simp only [f5_m,f5_c,nn]) (locs:=[4,10,11,12]) (hl:=fun hc=>(lp_of (by kernel_rfl) (lp_cons (f5_l13_ok hc) lp_nil)))
end
end Go.U
end
