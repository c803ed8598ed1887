/- The functions of the program as Lean functions, and that the evaluator says so. -/
import Derived.Test.YtjenflkegbmkkaaGreatDoorC7
set_option linter.unusedVariables false
set_option linter.unusedSimpArgs false
set_option linter.unusedSectionVars false
section
set_option maxRecDepth 100000
namespace Go.U
open Go Go.Proofs
noncomputable section
variable {C:V.Callee}
def f43v2_s:FS (Unit) (Unit) where
 sk:=⟨(.cons (.agg (.cons .nils (.cons .nils (.cons .nils .nil)))) .nil),[],0⟩
 a:=fun u=>()
 n:=fun a=>((((),((),((),()))),()),())
 o:=fun Z a r K=>K (.fn 69 [.ptr 0 0]) ⟨[.opn [.nils,.nils,.nils]],0⟩
def f43v2_c {X:Type} (a:Unit) (K:Unit->Option X):Option X:=
 K ()
def f43v2_m:=fun a=>f43v2_c a some
def f43v2_sp:Spec:=f43v2_s.sp f43v2_m
noncomputable def f43v2_e:Env:=⟨fun k=>[].contains k,callsL [],fun X k s K=>none⟩
theorem f43v2_ok:OK (1) 43 (f43v2_s.sp f43v2_m):=
 fO (d:=0) (env:=f43v2_e) (callsL_sim cn) (fn:=Tryz.f43) (mc:=@f43v2_c) (by intros;simp only [f43v2_m,f43v2_c,nn])
def f69v3_s:FS (Y3) (Y3) where
 sk:=⟨(.cons (.yl 1) (.cons (.ptr 0 0) .nil)),[.opn (.cons .nils (.cons .nils (.cons .nils .nil))),.loop 230003 [(5,(.ptr 2 0))] .ready .normal,.opn kr6,.cells .bool,.cells (.pair .bool .bool),.cells cAlarm],0⟩
 a:=fun u=>(u.t4.1,u.t5.1,u.t6.1)
 n:=fun a=>(((),((),())),(((),((),((),()))),(((),()),(((),((),((),()))),(w3 a)))))
 o:=fun Z a r K=>K (.tup []) ⟨[.opn [.nils,.nils,.nils],.loop 230003 [(5,.ptr 2 0)] .ready .normal,.opn [.all 3,.all 4,.all 6],.cells .bool r.1,.cells (.pair .bool .bool) r.2.1,.dead,.cells cAlarm r.2.2],0⟩
def f69v3_l1:LD ((List Bool)×Int) (Y30) (Y3) where
 sk:=⟨[(0,.v (.yl 1)),(1,.v (.ptr 0 0)),(12,.v (.lit .bool)),(13,.v (.int .i64)),(14,.v (.int .i64))],[],[.opn (.cons .nils (.cons .nils (.cons .nils .nil))),.loop 230003 [(5,(.ptr 2 0))] .ready .normal,.opn kr7,.cells .bool,.cells (.pair .bool .bool),.dead,.cells cAlarm],0,6⟩
 p:=fun u=>(u.1.2.2.1,u.1.t3.1)
 t:=fun u=>(u.1.t4.1,u.t5.1,u.t6.1,u.t8.1)
 n:=fun p t=>(((),((),(p.1,(p.2,(t.1,()))))),((),(((),((),((),()))),(((),()),(((),((),((),()))),(t.2.1,(t.2.2.1,((),(t.t3,())))))))))
 st:=fun Y p t ki ke=>cond (decide (t.1<p.2))
  (ask (V.inRange t.1 (List.length p.1)) (cond (gx p.1 (Int.toNat t.1) false)
  ((y230003_m (0,t.1,0,0,t.2.1,t.2.2.1,t.2.2.2)).bind fun r1=>
  Sum.elim (fun r2=>ki ((wi64 (t.1+(1:Int))),r2.1,r2.2,t.2.2.2))
  (fun r3=>ki ((wi64 (t.1+(1:Int))),t.2.1,t.2.2.1,r3)) r1)
  (ki ((wi64 (t.1+(1:Int))),t.2.1,t.2.2.1,t.2.2.2))))
  (ke ((t.2.1,t.2.2.1,t.2.2.2)))
 o:=fun Z p e K=>K (.exit 0) ⟨[(0,.v (.yl 1)),(1,.v (.ptr 0 0))],[],⟨[.opn [.nils,.nils,.nils],.loop 230003 [(5,.ptr 2 0)] .ready .normal,.opn [.all 3,.all 4,.all 6],.cells .bool e.1,.cells (.pair .bool .bool) e.2.1,.dead,.cells cAlarm e.2.2],0⟩,6⟩
 pol:=⟨[0,1,12,13,14],[(12,(.lit .bool))],[],[(2,[.any,.any,(.mv cAlarm)])]⟩
 pe:=[(.exit 0,⟨[0,1],[],[],[]⟩)]
def f69v3_l9:LD (Int×((List (Bool×Bool))×Int)×Int×(Bool×Bool)) (Y30) (Y3) where
 sk:=⟨[(0,.v (.yl 1)),(1,.v (.ptr 0 0)),(5,.v (.int .i64)),(29,.v (.lit (.pair .bool .bool))),(30,.v (.int .i64)),(31,.v (.int .i64)),(36,.v (.agg (.cons .bool (.cons .bool .nil)))),(37,.v (.int .i64))],[],[.opn (.cons .nils (.cons .nils (.cons .nils .nil))),.loop 230003 [(5,(.ptr 2 0))] .ready .normal,.opn kr7,.cells .bool,.cells (.pair .bool .bool),.dead,.cells cAlarm],0,6⟩
 p:=fun u=>(u.1.2.2.1,(u.1.t3.1,u.1.t4.1),u.1.t5.1,(u.1.t6.1.1,u.1.t6.1.2.1))
 t:=fun u=>(u.1.t7.1,u.t5.1,u.t6.1,u.t8.1)
 n:=fun p t=>(((),((),(p.1,(p.2.1.1,(p.2.1.2,(p.2.2.1,((p.t3.1,(p.t4,())),(t.1,())))))))),((),(((),((),((),()))),(((),()),(((),((),((),()))),(t.2.1,(t.2.2.1,((),(t.t3,())))))))))
 st:=fun Y p t ki ke=>cond (decide (t.1<(2:Int)))
  (cond (decide (t.1=(0:Int)))
  (cond p.2.2.2.1
  ((y230003_m ((wi64 ((1:Int)+t.1)),p.1,0,0,t.2.1,t.2.2.1,t.2.2.2)).bind fun r1=>
  Sum.elim (fun r2=>ki ((wi64 (t.1+(1:Int))),r2.1,r2.2,t.2.2.2))
  (fun r3=>ki ((wi64 (t.1+(1:Int))),t.2.1,t.2.2.1,r3)) r1)
  (ki ((wi64 (t.1+(1:Int))),t.2.1,t.2.2.1,t.2.2.2)))
  (cond (decide (t.1=(1:Int)))
  (cond p.2.2.2.2
  ((y230003_m ((wi64 ((1:Int)+t.1)),p.1,0,0,t.2.1,t.2.2.1,t.2.2.2)).bind fun r4=>
  Sum.elim (fun r5=>ki ((wi64 (t.1+(1:Int))),r5.1,r5.2,t.2.2.2))
  (fun r6=>ki ((wi64 (t.1+(1:Int))),t.2.1,t.2.2.1,r6)) r4)
  (ki ((wi64 (t.1+(1:Int))),t.2.1,t.2.2.1,t.2.2.2)))
  (none)))
  (ke ((t.2.1,t.2.2.1,t.2.2.2)))
 o:=fun Z p e K=>K (.exit 4) ⟨[(0,.v (.yl 1)),(1,.v (.ptr 0 0)),(29,.v (.lit (.pair .bool .bool) p.2.1.1)),(30,.v (.int .i64 p.2.1.2)),(31,.v (.int .i64 p.2.2.1))],[],⟨[.opn [.nils,.nils,.nils],.loop 230003 [(5,.ptr 2 0)] .ready .normal,.opn [.all 3,.all 4,.all 6],.cells .bool e.1,.cells (.pair .bool .bool) e.2.1,.dead,.cells cAlarm e.2.2],0⟩,6⟩
 pol:=⟨[0,1,5,29,30,31,36,37],[],[],[]⟩
 pe:=[(.exit 4,⟨[0,1,29,30,31],[],[],[]⟩)]
def f69v3_l6:LD ((List (Bool×Bool))×Int) (Y30) (Y3) where
 sk:=⟨[(0,.v (.yl 1)),(1,.v (.ptr 0 0)),(29,.v (.lit (.pair .bool .bool))),(30,.v (.int .i64)),(31,.v (.int .i64))],[],[.opn (.cons .nils (.cons .nils (.cons .nils .nil))),.loop 230003 [(5,(.ptr 2 0))] .ready .normal,.opn kr7,.cells .bool,.cells (.pair .bool .bool),.dead,.cells cAlarm],0,6⟩
 p:=fun u=>(u.1.2.2.1,u.1.t3.1)
 t:=fun u=>(u.1.t4.1,u.t5.1,u.t6.1,u.t8.1)
 n:=fun p t=>(((),((),(p.1,(p.2,(t.1,()))))),((),(((),((),((),()))),(((),()),(((),((),((),()))),(t.2.1,(t.2.2.1,((),(t.t3,())))))))))
 st:=fun Y p t ki ke=>cond (decide (t.1<p.2))
  (ask (V.inRange t.1 (List.length p.1)) ((loopAll (f69v3_l9.m (t.1,p,t.1,(gx p.1 (Int.toNat t.1) (false,false)))) (0,t.2.1,t.2.2.1,t.2.2.2)).bind fun e1=>
  ki ((wi64 (t.1+(1:Int))),e1.1,e1.2.1,e1.2.2)))
  (ke ((t.2.1,t.2.2.1,t.2.2.2)))
 o:=fun Z p e K=>K (.exit 2) ⟨[(0,.v (.yl 1)),(1,.v (.ptr 0 0))],[],⟨[.opn [.nils,.nils,.nils],.loop 230003 [(5,.ptr 2 0)] .ready .normal,.opn [.all 3,.all 4,.all 6],.cells .bool e.1,.cells (.pair .bool .bool) e.2.1,.dead,.cells cAlarm e.2.2],0⟩,6⟩
 pol:=⟨[0,1,29,30,31],[(29,(.lit (.pair .bool .bool)))],[],[]⟩
 pe:=[(.exit 2,⟨[0,1],[],[],[]⟩)]
def f69v3_l15:LD ((List TAlarm)×Int) (Y30) (Y3) where
 sk:=⟨[(0,.v (.yl 1)),(54,.v (.lit cAlarm)),(55,.v (.int .i64)),(56,.v (.int .i64))],[],[.opn (.cons .nils (.cons .nils (.cons .nils .nil))),.loop 230003 [(5,(.ptr 2 0))] .ready .normal,.opn kr7,.cells .bool,.cells (.pair .bool .bool),.dead,.cells cAlarm],0,6⟩
 p:=fun u=>(u.1.2.1,u.1.2.2.1)
 t:=fun u=>(u.1.t3.1,u.t5.1,u.t6.1,u.t8.1)
 n:=fun p t=>(((),(p.1,(p.2,(t.1,())))),((),(((),((),((),()))),(((),()),(((),((),((),()))),(t.2.1,(t.2.2.1,((),(t.t3,())))))))))
 st:=fun Y p t ki ke=>cond (decide (t.1<p.2))
  (ask (V.inRange t.1 (List.length p.1)) ((y230003_m (3,0,(gx p.1 (Int.toNat t.1) dAlarm).1,(gx p.1 (Int.toNat t.1) dAlarm).2,t.2.1,t.2.2.1,t.2.2.2)).bind fun r1=>
  Sum.elim (fun r2=>ki ((wi64 (t.1+(1:Int))),r2.1,r2.2,t.2.2.2))
  (fun r3=>ki ((wi64 (t.1+(1:Int))),t.2.1,t.2.2.1,r3)) r1))
  (ke ((t.2.1,t.2.2.1,t.2.2.2)))
 o:=fun Z p e K=>K (.exit 6) ⟨[],[],⟨[.opn [.nils,.nils,.nils],.loop 230003 [(5,.ptr 2 0)] .ready .normal,.opn [.all 3,.all 4,.all 6],.cells .bool e.1,.cells (.pair .bool .bool) e.2.1,.dead,.cells cAlarm e.2.2],0⟩,6⟩
 pol:=⟨[0,54,55,56],[(54,(.lit cAlarm))],[],[]⟩
 pe:=[(.exit 6,⟨[],[],[],[]⟩)]
def f69v3_c {X:Type} (a:Y3) (K:Y3->Option X):Option X:=
 (loopAll (f69v3_l1.m ([],0)) (0,a.1,a.2.1,a.2.2)).bind fun e1=>
 (loopAll (f69v3_l6.m ([],0)) (0,e1.1,e1.2.1,e1.2.2)).bind fun e2=>
 (loopAll (f69v3_l15.m ([],0)) (0,e2.1,e2.2.1,e2.2.2)).bind fun e3=>
 K (e3.1,e3.2.1,e3.2.2)
def f69v3_m:=fun a=>f69v3_c a some
def f69v3_sp:Spec:=f69v3_s.sp f69v3_m
noncomputable def f69v3_e:Env:=⟨fun k=>[].contains k,callsYL [] [(230003,y230003_sp)],fun X k s K=>if k=1 then f69v3_l1.q X s K else if k=9 then f69v3_l9.q X s K else if k=6 then f69v3_l6.q X s K else if k=15 then f69v3_l15.q X s K else none⟩
noncomputable def f69v3_l1_c:Code:=subAt [0,1,0,0] (bodyOf Tryz.f69)
theorem f69v3_l1_ok (hc:SimCall C f69v3_e.call):LoopSim f69v3_e.loop (vc par C true [6,10] 66) (.loop f69v3_l1_c):=
 lO hc f69v3_l1 (by intros;simp only [f69v3_l1,LD.m,nn])
noncomputable def f69v3_l9_c:Code:=subAt [1,0,1,0,0,1,1,0,0,1,1,0,0] (bodyOf Tryz.f69)
theorem f69v3_l9_ok (hc:SimCall C f69v3_e.call):LoopSim f69v3_e.loop (vc par C true [6,10] 66) (.loop f69v3_l9_c):=
 lO hc f69v3_l9 (by intros;simp only [f69v3_l9,LD.m,nn])
noncomputable def f69v3_l6_c:Code:=subAt [1,0,1,0,0] (bodyOf Tryz.f69)
theorem f69v3_l6_ok (hc:SimCall C f69v3_e.call):LoopSim f69v3_e.loop (vc par C true [6,10] 66) (.loop f69v3_l6_c):=
 lO hc f69v3_l6 (by intros;simp only [f69v3_l6,LD.m,nn]) (hl:=(lp_of (by kernel_rfl) (lp_cons (f69v3_l9_ok hc) lp_nil)))
noncomputable def f69v3_l15_c:Code:=subAt [1,1,1,0,0] (bodyOf Tryz.f69)
theorem f69v3_l15_ok (hc:SimCall C f69v3_e.call):LoopSim f69v3_e.loop (vc par C true [6,10] 66) (.loop f69v3_l15_c):=
 lO hc f69v3_l15 (by intros;simp only [f69v3_l15,LD.m,nn])
theorem f69v3_ok:OK (5) 69 (f69v3_s.sp f69v3_m):=
 fO (d:=4) (env:=f69v3_e) (callsYL_sim cn (ccy y230003_ok cyn)) (fn:=Tryz.f69) (mc:=@f69v3_c) (by intros;simp only [f69v3_m,f69v3_c,nn]) (locs:=[6,10]) (hl:=fun hc=>(lp_of (by kernel_rfl) (lp_cons (f69v3_l1_ok hc) (lp_cons (f69v3_l6_ok hc) (lp_cons (f69v3_l15_ok hc) lp_nil)))))
def f23v1_s:FS (Y3) (Y3) where
 sk:=⟨(.cons (.agg (.cons (.all 0) (.cons (.all 1) (.cons (.all 2) .nil)))) (.cons (.agg (.cons .nils (.cons .nils (.cons .nils .nil)))) .nil)),[.cells .bool,.cells (.pair .bool .bool),.cells cAlarm],0⟩
 a:=fun u=>(u.2.1,u.2.2.1,u.t3.1)
 n:=fun a=>((((),((),((),()))),(((),((),((),()))),())),(w3 a))
 o:=fun Z a r K=>K (.agg [.all 3,.all 4,.all 5]) ⟨[.cells .bool a.1,.cells (.pair .bool .bool) a.2.1,.cells cAlarm a.2.2,.cells .bool r.1,.cells (.pair .bool .bool) r.2.1,.cells cAlarm r.2.2],0⟩
def f23v1_q3:PD (Y29) (Y3) where
 sk:=⟨[(4,.v (.ptr 3 0)),(5,.v (.ptr 4 0)),(18,.v (.fn 69 (.cons (.ptr 8 0) .nil)))],[],[.cells .bool,.cells (.pair .bool .bool),.cells cAlarm,.opn (.cons .nils (.cons .nils (.cons .nils .nil))),.opn (.cons (.all 5) (.cons (.all 6) (.cons (.all 7) .nil))),.cells .bool,.cells (.pair .bool .bool),.cells cAlarm,.opn (.cons .nils (.cons .nils (.cons .nils .nil)))],0,3⟩
 p:=fun u=>((q3 u.2.2),u.t7.1,u.t8.1,u.t9.1)
 n:=fun p=>(((),((),(((),()),()))),((),(p.1.1,(p.1.2.1,(p.1.2.2,(((),((),((),()))),(((),((),((),()))),(p.2.1,(p.2.2.1,(p.t3,(((),((),((),()))),())))))))))))
 st:=fun Y p ke=>(f69v3_m (p.2.1,p.2.2.1,p.2.2.2)).bind fun r1=>
  ke ((r1.1,r1.2.1,r1.2.2))
 o:=fun Z p e K=>K .normal ⟨[(4,.v (.ptr 3 0)),(5,.v (.ptr 4 0))],[],⟨[.cells .bool p.1.1,.cells (.pair .bool .bool) p.1.2.1,.cells cAlarm p.1.2.2,.opn [.nils,.nils,.nils],.opn [.all 5,.all 6,.all 7],.cells .bool e.1,.cells (.pair .bool .bool) e.2.1,.cells cAlarm e.2.2],0⟩,3⟩
 pol:=⟨[4,5,18],[],[],[]⟩
 pe:=[(.normal,⟨[4,5],[],[],[]⟩)]
def f23v1_c {X:Type} (a:Y3) (K:Y3->Option X):Option X:=
 (f47_m a.1).bind fun r1=>
 (f48_m a.2.1).bind fun r2=>
 (f49_m a.2.2).bind fun r3=>
 (f23v1_q3.m (a,r1,r2,r3)).bind fun e4=>
 (f51_m e4.2.2).bind fun r5=>
 K (e4.1,e4.2.1,r5)
def f23v1_m:=fun a=>f23v1_c a some
def f23v1_sp:Spec:=f23v1_s.sp f23v1_m
noncomputable def f23v1_e:Env:=⟨fun k=>[].contains k,callsL [(47,f47_sp),(48,f48_sp),(49,f49_sp),(43,f43v2_sp),(69,f69v3_sp),(51,f51_sp)],fun X k s K=>if k=3 then f23v1_q3.q X s K else none⟩
theorem f23v1_q3_ok (hc:SimCall C f23v1_e.call):LoopSim f23v1_e.loop (vc par C true [] 63) (.rangeFunc (rfG (subAt [1,1,0,1,0] (bodyOf Tryz.f23))) (rfPs (subAt [1,1,0,1,0] (bodyOf Tryz.f23))) (rfA (subAt [1,1,0,1,0] (bodyOf Tryz.f23))) (rfB (subAt [1,1,0,1,0] (bodyOf Tryz.f23)))):=
 rO (env:=f23v1_e) hc (id:=230003) (ks:=[5]) f23v1_q3 (by intros;simp only [f23v1_q3,PD.m,nn])
theorem f23v1_ok:OK (6) 23 (f23v1_s.sp f23v1_m):=
 fO (d:=5) (env:=f23v1_e) (callsL_sim (cc f47_ok (cc f48_ok (cc f49_ok (cc f43v2_ok (cc f69v3_ok (cc f51_ok cn))))))) (fn:=Tryz.f23) (mc:=@f23v1_c) (by intros;simp only [f23v1_m,f23v1_c,nn]) (sh:=(.agg [(.own .bool),(.own (.pair .bool .bool)),(.own cAlarm)])) (hl:=fun hc=>(lp_of (by kernel_rfl) (lp_cons (f23v1_q3_ok hc) lp_nil)))
def y240002_s:FS (Int×Int×Int×Int×(List Bool)×(List (Bool×Bool))×(List TAlarm)×Bool) ((Unit) ⊕ (Unit)) where
 sk:=⟨(.cons (.yl 0) (.cons (.agg kThing) .nil)),[.loop 240002 [(3,(.ptr 1 0)),(4,(.ptr 5 0))] .ready .normal,.opn kr1,.cells .bool,.cells (.pair .bool .bool),.cells cAlarm,.opn (.cons .bool .nil)],0⟩
 a:=fun u=>(u.1.2.1.1,u.1.2.1.2.1,u.1.2.1.2.2.1,u.1.2.1.t3.1,u.t3.1,u.t4.1,u.t5.1,u.t6.1.1)
 n:=fun a=>(((),((a.1,(a.2.1,(a.2.2.1,(a.t3.1,())))),())),(((),((),())),(((),((),((),()))),(a.t4.1,(a.t5.1,(a.t6.1,((a.t7,()),())))))))
 o:=fun Z a r K=>Sum.elim (fun e=>K (.bool false) ⟨[.loop 240002 [(3,.ptr 1 0),(4,.ptr 5 0)] .done .ret,.opn [.all 2,.all 3,.all 4],.cells .bool a.t4.1,.cells (.pair .bool .bool) a.t5.1,.cells cAlarm a.t6.1,.opn [.bool false]],0⟩) (fun e=>K (.bool true) ⟨[.loop 240002 [(3,.ptr 1 0),(4,.ptr 5 0)] .ready .normal,.opn [.all 2,.all 3,.all 4],.cells .bool a.t4.1,.cells (.pair .bool .bool) a.t5.1,.cells cAlarm a.t6.1,.opn [.bool a.t7]],0⟩) r
def y240002_c {X:Type} (a:Int×Int×Int×Int×(List Bool)×(List (Bool×Bool))×(List TAlarm)×Bool) (K:(Unit) ⊕ (Unit)->Option X):Option X:=
 (f50_m ((a.1,(a.2.1,(a.2.2.1,a.2.2.2.1))),a.2.2.2.2.1,a.2.2.2.2.2.1,a.2.2.2.2.2.2.1)).bind fun r1=>
 cond (!r1)
 (K (.inl ()))
 (K (.inr (())))
def y240002_m:=fun a=>y240002_c a some
def y240002_sp:Spec:=y240002_s.sp y240002_m
noncomputable def y240002_e:Env:=⟨fun k=>[].contains k,callsL [(50,f50_sp)],fun X k s K=>none⟩
theorem y240002_ok:OKY (4) y240002_sp:=
 ylOK (d:=3) (env:=y240002_e) (callsL_sim (cc f50_ok cn)) (id:=240002) (r:=rfT 240002) rfl (fun hc=>(lp_of (by kernel_rfl) lp_nil)) (fun hc=>(lp_of (by kernel_rfl) lp_nil)) (mc:=fun X a K=>y240002_c a K) (fun _ _ _=>by kernel_rfl) (by intros;simp only [y240002_m,y240002_c,nn]) (fun _=>rfl)
def f69v4_s:FS (Y35) ((Unit) ⊕ (Unit)) where
 sk:=⟨(.cons (.yl 4) (.cons (.ptr 0 0) .nil)),[.opn kr8,.cells .bool,.cells (.pair .bool .bool),.cells cAlarm,.loop 240002 [(3,(.ptr 5 0)),(4,(.ptr 9 0))] .ready .normal,.opn kr9,.cells .bool,.cells (.pair .bool .bool),.cells cAlarm,.opn (.cons .bool .nil)],0⟩
 a:=fun u=>(u.2.2.1,u.t3.1,u.t4.1,u.t7.1,u.t8.1,u.t9.1,u.t10.1.1)
 n:=fun a=>(((),((),())),(((),((),((),()))),(a.1,(a.2.1,(a.2.2.1,(((),((),())),(((),((),((),()))),(a.t3.1,(a.t4.1,(a.t5.1,((a.t6,()),())))))))))))
 o:=fun Z a r K=>Sum.elim (fun e=>K (.tup []) ⟨[.opn [.all 1,.all 2,.all 3],.cells .bool a.1,.cells (.pair .bool .bool) a.2.1,.cells cAlarm a.2.2.1,.loop 240002 [(3,.ptr 5 0),(4,.ptr 9 0)] .done .ret,.opn [.all 6,.all 7,.all 8],.cells .bool a.t3.1,.cells (.pair .bool .bool) a.t4.1,.cells cAlarm a.t5.1,.opn [.bool false]],0⟩) (fun e=>K (.tup []) ⟨[.opn [.all 1,.all 2,.all 3],.cells .bool a.1,.cells (.pair .bool .bool) a.2.1,.cells cAlarm a.2.2.1,.loop 240002 [(3,.ptr 5 0),(4,.ptr 9 0)] .ready .normal,.opn [.all 6,.all 7,.all 8],.cells .bool a.t3.1,.cells (.pair .bool .bool) a.t4.1,.cells cAlarm a.t5.1,.opn [.bool a.t6]],0⟩) r
def f69v4_l1:LD (Int×((List Bool)×((List (Bool×Bool))×((List TAlarm)×((List Bool)×(Y36)))))) (Int) ((Unit) ⊕ (Unit)) where
 sk:=⟨[(0,.v (.yl 4)),(1,.v (.ptr 0 0)),(12,.v (.all 1)),(13,.v (.int .i64)),(14,.v (.int .i64))],[],[.opn kr8,.cells .bool,.cells (.pair .bool .bool),.cells cAlarm,.loop 240002 [(3,(.ptr 5 0)),(4,(.ptr 9 0))] .ready .normal,.opn kr9,.cells .bool,.cells (.pair .bool .bool),.cells cAlarm,.opn (.cons .bool .nil)],0,10⟩
 p:=fun u=>(u.1.t3.1,(u.t3.1,(u.t4.1,(u.t5.1,(u.t8.1,(u.t9.1,(u.t10.1,u.t11.1.1)))))))
 t:=fun u=>u.1.t4.1
 n:=fun p t=>(((),((),((),(p.1,(t,()))))),((),(((),((),((),()))),(p.2.1,(p.2.2.1,(p.t3.1,(((),((),())),(((),((),((),()))),(p.t4.1,(p.t5.1,(p.t6.1,((p.t7,()),()))))))))))))
 st:=fun Y p t ki ke=>cond (decide (t<p.1))
  (ask (V.inRange t (List.length p.2.1)) (cond (gx p.2.1 (Int.toNat t) false)
  ((y240002_m (0,t,0,0,p.2.2.2.2.1,p.2.2.2.2.2.1,p.2.2.2.2.2.2.1,p.2.2.2.2.2.2.2)).bind fun r1=>
  Sum.elim (fun r2=>ke (.inl ()))
  (fun r3=>ki ((wi64 (t+(1:Int))))) r1)
  (ki ((wi64 (t+(1:Int)))))))
  (ke (.inr (())))
 o:=fun Z p e K=>Sum.elim (fun e=>K .ret ⟨[],[],⟨[.opn [.all 1,.all 2,.all 3],.cells .bool p.2.1,.cells (.pair .bool .bool) p.2.2.1,.cells cAlarm p.t3.1,.loop 240002 [(3,.ptr 5 0),(4,.ptr 9 0)] .done .ret,.opn [.all 6,.all 7,.all 8],.cells .bool p.t4.1,.cells (.pair .bool .bool) p.t5.1,.cells cAlarm p.t6.1,.opn [.bool false]],0⟩,10⟩) (fun e=>K (.exit 0) ⟨[(0,.v (.yl 4)),(1,.v (.ptr 0 0))],[],⟨[.opn [.all 1,.all 2,.all 3],.cells .bool p.2.1,.cells (.pair .bool .bool) p.2.2.1,.cells cAlarm p.t3.1,.loop 240002 [(3,.ptr 5 0),(4,.ptr 9 0)] .ready .normal,.opn [.all 6,.all 7,.all 8],.cells .bool p.t4.1,.cells (.pair .bool .bool) p.t5.1,.cells cAlarm p.t6.1,.opn [.bool p.t7]],0⟩,10⟩) e
 pol:=⟨[0,1,12,13,14],[],[],[]⟩
 pe:=[(.ret,⟨[],[],[],[]⟩),(.exit 0,⟨[0,1],[],[],[]⟩)]
def f69v4_l9:LD (Int×Int×Int×(Bool×Bool)×((List Bool)×((List (Bool×Bool))×((List TAlarm)×((List Bool)×(Y36)))))) (Int) ((Unit) ⊕ (Unit)) where
 sk:=⟨[(0,.v (.yl 4)),(1,.v (.ptr 0 0)),(5,.v (.int .i64)),(29,.v (.all 2)),(30,.v (.int .i64)),(31,.v (.int .i64)),(36,.v (.agg (.cons .bool (.cons .bool .nil)))),(37,.v (.int .i64))],[],[.opn kr8,.cells .bool,.cells (.pair .bool .bool),.cells cAlarm,.loop 240002 [(3,(.ptr 5 0)),(4,(.ptr 9 0))] .ready .normal,.opn kr9,.cells .bool,.cells (.pair .bool .bool),.cells cAlarm,.opn (.cons .bool .nil)],0,10⟩
 p:=fun u=>(u.1.2.2.1,u.1.t4.1,u.1.t5.1,(u.1.t6.1.1,u.1.t6.1.2.1),(u.t3.1,(u.t4.1,(u.t5.1,(u.t8.1,(u.t9.1,(u.t10.1,u.t11.1.1)))))))
 t:=fun u=>u.1.t7.1
 n:=fun p t=>(((),((),(p.1,((),(p.2.1,(p.2.2.1,((p.t3.1.1,(p.t3.1.2,())),(t,())))))))),((),(((),((),((),()))),(p.t4.1,(p.t5.1,(p.t6.1,(((),((),())),(((),((),((),()))),(p.t7.1,(p.t8.1,(p.t9.1,((p.t10,()),()))))))))))))
 st:=fun Y p t ki ke=>cond (decide (t<(2:Int)))
  (cond (decide (t=(0:Int)))
  (cond p.2.2.2.1.1
  ((y240002_m ((wi64 ((1:Int)+t)),p.1,0,0,p.2.2.2.2.2.2.2.1,p.2.2.2.2.2.2.2.2.1,p.2.2.2.2.2.2.2.2.2.1,p.2.2.2.2.2.2.2.2.2.2)).bind fun r1=>
  Sum.elim (fun r2=>ke (.inl ()))
  (fun r3=>ki ((wi64 (t+(1:Int))))) r1)
  (ki ((wi64 (t+(1:Int))))))
  (cond (decide (t=(1:Int)))
  (cond p.2.2.2.1.2
  ((y240002_m ((wi64 ((1:Int)+t)),p.1,0,0,p.2.2.2.2.2.2.2.1,p.2.2.2.2.2.2.2.2.1,p.2.2.2.2.2.2.2.2.2.1,p.2.2.2.2.2.2.2.2.2.2)).bind fun r4=>
  Sum.elim (fun r5=>ke (.inl ()))
  (fun r6=>ki ((wi64 (t+(1:Int))))) r4)
  (ki ((wi64 (t+(1:Int))))))
  (none)))
  (ke (.inr (())))
 o:=fun Z p e K=>Sum.elim (fun e=>K .ret ⟨[],[],⟨[.opn [.all 1,.all 2,.all 3],.cells .bool p.t4.1,.cells (.pair .bool .bool) p.t5.1,.cells cAlarm p.t6.1,.loop 240002 [(3,.ptr 5 0),(4,.ptr 9 0)] .done .ret,.opn [.all 6,.all 7,.all 8],.cells .bool p.t7.1,.cells (.pair .bool .bool) p.t8.1,.cells cAlarm p.t9.1,.opn [.bool false]],0⟩,10⟩) (fun e=>K (.exit 4) ⟨[(0,.v (.yl 4)),(1,.v (.ptr 0 0)),(29,.v (.all 2)),(30,.v (.int .i64 p.2.1)),(31,.v (.int .i64 p.2.2.1))],[],⟨[.opn [.all 1,.all 2,.all 3],.cells .bool p.t4.1,.cells (.pair .bool .bool) p.t5.1,.cells cAlarm p.t6.1,.loop 240002 [(3,.ptr 5 0),(4,.ptr 9 0)] .ready .normal,.opn [.all 6,.all 7,.all 8],.cells .bool p.t7.1,.cells (.pair .bool .bool) p.t8.1,.cells cAlarm p.t9.1,.opn [.bool p.t10]],0⟩,10⟩) e
 pol:=⟨[0,1,5,29,30,31,36,37],[],[],[]⟩
 pe:=[(.ret,⟨[],[],[],[]⟩),(.exit 4,⟨[0,1,29,30,31],[],[],[]⟩)]
def f69v4_l6:LD (Int×((List Bool)×((List (Bool×Bool))×((List TAlarm)×((List Bool)×(Y36)))))) (Int) ((Unit) ⊕ (Unit)) where
 sk:=⟨[(0,.v (.yl 4)),(1,.v (.ptr 0 0)),(29,.v (.all 2)),(30,.v (.int .i64)),(31,.v (.int .i64))],[],[.opn kr8,.cells .bool,.cells (.pair .bool .bool),.cells cAlarm,.loop 240002 [(3,(.ptr 5 0)),(4,(.ptr 9 0))] .ready .normal,.opn kr9,.cells .bool,.cells (.pair .bool .bool),.cells cAlarm,.opn (.cons .bool .nil)],0,10⟩
 p:=fun u=>(u.1.t3.1,(u.t3.1,(u.t4.1,(u.t5.1,(u.t8.1,(u.t9.1,(u.t10.1,u.t11.1.1)))))))
 t:=fun u=>u.1.t4.1
 n:=fun p t=>(((),((),((),(p.1,(t,()))))),((),(((),((),((),()))),(p.2.1,(p.2.2.1,(p.t3.1,(((),((),())),(((),((),((),()))),(p.t4.1,(p.t5.1,(p.t6.1,((p.t7,()),()))))))))))))
 st:=fun Y p t ki ke=>cond (decide (t<p.1))
  (ask (V.inRange t (List.length p.2.2.1)) ((loopAll (f69v4_l9.m (t,p.1,t,(gx p.2.2.1 (Int.toNat t) (false,false)),p.2)) 0).bind fun e1=>
  Sum.elim (fun e2=>ke (.inl ()))
  (fun e3=>ki ((wi64 (t+(1:Int))))) e1))
  (ke (.inr (())))
 o:=fun Z p e K=>Sum.elim (fun e=>K .ret ⟨[],[],⟨[.opn [.all 1,.all 2,.all 3],.cells .bool p.2.1,.cells (.pair .bool .bool) p.2.2.1,.cells cAlarm p.t3.1,.loop 240002 [(3,.ptr 5 0),(4,.ptr 9 0)] .done .ret,.opn [.all 6,.all 7,.all 8],.cells .bool p.t4.1,.cells (.pair .bool .bool) p.t5.1,.cells cAlarm p.t6.1,.opn [.bool false]],0⟩,10⟩) (fun e=>K (.exit 2) ⟨[(0,.v (.yl 4)),(1,.v (.ptr 0 0))],[],⟨[.opn [.all 1,.all 2,.all 3],.cells .bool p.2.1,.cells (.pair .bool .bool) p.2.2.1,.cells cAlarm p.t3.1,.loop 240002 [(3,.ptr 5 0),(4,.ptr 9 0)] .ready .normal,.opn [.all 6,.all 7,.all 8],.cells .bool p.t4.1,.cells (.pair .bool .bool) p.t5.1,.cells cAlarm p.t6.1,.opn [.bool p.t7]],0⟩,10⟩) e
 pol:=⟨[0,1,29,30,31],[],[],[]⟩
 pe:=[(.ret,⟨[],[],[],[]⟩),(.exit 2,⟨[0,1],[],[],[]⟩)]
def f69v4_l15:LD (Int×((List Bool)×((List (Bool×Bool))×((List TAlarm)×((List Bool)×(Y36)))))) (Int) ((Unit) ⊕ (Unit)) where
 sk:=⟨[(0,.v (.yl 4)),(54,.v (.all 3)),(55,.v (.int .i64)),(56,.v (.int .i64))],[],[.opn kr8,.cells .bool,.cells (.pair .bool .bool),.cells cAlarm,.loop 240002 [(3,(.ptr 5 0)),(4,(.ptr 9 0))] .ready .normal,.opn kr9,.cells .bool,.cells (.pair .bool .bool),.cells cAlarm,.opn (.cons .bool .nil)],0,10⟩
 p:=fun u=>(u.1.2.2.1,(u.t3.1,(u.t4.1,(u.t5.1,(u.t8.1,(u.t9.1,(u.t10.1,u.t11.1.1)))))))
 t:=fun u=>u.1.t3.1
 n:=fun p t=>(((),((),(p.1,(t,())))),((),(((),((),((),()))),(p.2.1,(p.2.2.1,(p.t3.1,(((),((),())),(((),((),((),()))),(p.t4.1,(p.t5.1,(p.t6.1,((p.t7,()),()))))))))))))
 st:=fun Y p t ki ke=>cond (decide (t<p.1))
  (ask (V.inRange t (List.length p.2.2.2.1)) ((y240002_m (3,0,(gx p.2.2.2.1 (Int.toNat t) dAlarm).1,(gx p.2.2.2.1 (Int.toNat t) dAlarm).2,p.2.2.2.2.1,p.2.2.2.2.2.1,p.2.2.2.2.2.2.1,p.2.2.2.2.2.2.2)).bind fun r1=>
  Sum.elim (fun r2=>ke (.inl ()))
  (fun r3=>ki ((wi64 (t+(1:Int))))) r1))
  (ke (.inr (())))
 o:=fun Z p e K=>Sum.elim (fun e=>K .ret ⟨[],[],⟨[.opn [.all 1,.all 2,.all 3],.cells .bool p.2.1,.cells (.pair .bool .bool) p.2.2.1,.cells cAlarm p.t3.1,.loop 240002 [(3,.ptr 5 0),(4,.ptr 9 0)] .done .ret,.opn [.all 6,.all 7,.all 8],.cells .bool p.t4.1,.cells (.pair .bool .bool) p.t5.1,.cells cAlarm p.t6.1,.opn [.bool false]],0⟩,10⟩) (fun e=>K (.exit 6) ⟨[],[],⟨[.opn [.all 1,.all 2,.all 3],.cells .bool p.2.1,.cells (.pair .bool .bool) p.2.2.1,.cells cAlarm p.t3.1,.loop 240002 [(3,.ptr 5 0),(4,.ptr 9 0)] .ready .normal,.opn [.all 6,.all 7,.all 8],.cells .bool p.t4.1,.cells (.pair .bool .bool) p.t5.1,.cells cAlarm p.t6.1,.opn [.bool p.t7]],0⟩,10⟩) e
 pol:=⟨[0,54,55,56],[],[],[]⟩
 pe:=[(.ret,⟨[],[],[],[]⟩),(.exit 6,⟨[],[],[],[]⟩)]
def f69v4_c {X:Type} (a:Y35) (K:(Unit) ⊕ (Unit)->Option X):Option X:=
 (loopAll (f69v4_l1.m ((nt (List.length a.1)),a)) 0).bind fun e1=>
 Sum.elim (fun e2=>K (.inl ()))
 (fun e3=>(loopAll (f69v4_l6.m ((nt (List.length a.2.1)),a)) 0).bind fun e4=>
 Sum.elim (fun e5=>K (.inl ()))
 (fun e6=>(loopAll (f69v4_l15.m ((nt (List.length a.2.2.1)),a)) 0).bind fun e7=>
 Sum.elim (fun e8=>K (.inl ()))
 (fun e9=>K (.inr (()))) e7) e4) e1
def f69v4_m:=fun a=>f69v4_c a some
def f69v4_sp:Spec:=f69v4_s.sp f69v4_m
noncomputable def f69v4_e:Env:=⟨fun k=>[].contains k,callsYL [] [(240002,y240002_sp)],fun X k s K=>if k=1 then f69v4_l1.q X s K else if k=9 then f69v4_l9.q X s K else if k=6 then f69v4_l6.q X s K else if k=15 then f69v4_l15.q X s K else none⟩
noncomputable def f69v4_l1_c:Code:=subAt [0,1,0,0] (bodyOf Tryz.f69)
theorem f69v4_l1_ok (hc:SimCall C f69v4_e.call):LoopSim f69v4_e.loop (vc par C true [6,10] 66) (.loop f69v4_l1_c):=
 lO hc f69v4_l1 (by intros;simp only [f69v4_l1,LD.m,nn])
noncomputable def f69v4_l9_c:Code:=subAt [1,0,1,0,0,1,1,0,0,1,1,0,0] (bodyOf Tryz.f69)
theorem f69v4_l9_ok (hc:SimCall C f69v4_e.call):LoopSim f69v4_e.loop (vc par C true [6,10] 66) (.loop f69v4_l9_c):=
 lO hc f69v4_l9 (by intros;simp only [f69v4_l9,LD.m,nn])
noncomputable def f69v4_l6_c:Code:=subAt [1,0,1,0,0] (bodyOf Tryz.f69)
theorem f69v4_l6_ok (hc:SimCall C f69v4_e.call):LoopSim f69v4_e.loop (vc par C true [6,10] 66) (.loop f69v4_l6_c):=
 lO hc f69v4_l6 (by intros;simp only [f69v4_l6,LD.m,nn]) (hl:=(lp_of (by kernel_rfl) (lp_cons (f69v4_l9_ok hc) lp_nil)))
noncomputable def f69v4_l15_c:Code:=subAt [1,1,1,0,0] (bodyOf Tryz.f69)
theorem f69v4_l15_ok (hc:SimCall C f69v4_e.call):LoopSim f69v4_e.loop (vc par C true [6,10] 66) (.loop f69v4_l15_c):=
 lO hc f69v4_l15 (by intros;simp only [f69v4_l15,LD.m,nn])
theorem f69v4_ok:OK (5) 69 (f69v4_s.sp f69v4_m):=
 fO (d:=4) (env:=f69v4_e) (callsYL_sim cn (ccy y240002_ok cyn)) (fn:=Tryz.f69) (mc:=@f69v4_c) (by intros;simp only [f69v4_m,f69v4_c,nn]) (locs:=[6,10]) (hl:=fun hc=>(lp_of (by kernel_rfl) (lp_cons (f69v4_l1_ok hc) (lp_cons (f69v4_l6_ok hc) (lp_cons (f69v4_l15_ok hc) lp_nil)))))
def f24_s:FS (Y37) (Bool) where
 sk:=⟨(.cons (.agg (.cons (.all 0) (.cons (.all 1) (.cons (.all 2) .nil)))) (.cons (.agg (.cons (.all 3) (.cons (.all 4) (.cons (.all 5) .nil)))) .nil)),[.cells .bool,.cells (.pair .bool .bool),.cells cAlarm,.cells .bool,.cells (.pair .bool .bool),.cells cAlarm],0⟩
 a:=fun u=>(u.2.1,u.2.2.1,u.t3.1,u.t4.1,u.t5.1,u.t6.1)
 n:=fun a=>((((),((),((),()))),(((),((),((),()))),())),(w6 a))
 o:=fun Z a r K=>K (.bool r) ⟨[.cells .bool a.1,.cells (.pair .bool .bool) a.2.1,.cells cAlarm a.2.2.1,.cells .bool a.t3.1,.cells (.pair .bool .bool) a.t4.1,.cells cAlarm a.t5],0⟩
def f24_q2:PD (((List Bool)×(Y38))×Bool) ((Unit) ⊕ (Unit)) where
 sk:=⟨[(3,.v (.ptr 6 0)),(4,.v (.ptr 7 0)),(7,.v (.fn 69 (.cons (.ptr 8 0) .nil)))],[],[.cells .bool,.cells (.pair .bool .bool),.cells cAlarm,.cells .bool,.cells (.pair .bool .bool),.cells cAlarm,.opn kr6,.opn (.cons .bool .nil),.opn (.cons (.all 0) (.cons (.all 1) (.cons (.all 2) .nil)))],0,6⟩
 p:=fun u=>((q6 u.2.2),u.t9.1.1)
 n:=fun p=>(((),((),(((),()),()))),((),(p.1.1,(p.1.2.1,(p.1.2.2.1,(p.1.t3.1,(p.1.t4.1,(p.1.t5,(((),((),((),()))),((p.2,()),(((),((),((),()))),())))))))))))
 st:=fun Y p ke=>(f69v4_m (p.1.1,p.1.2.1,p.1.2.2.1,p.1.2.2.2.1,p.1.2.2.2.2.1,p.1.2.2.2.2.2,p.2)).bind fun r1=>
  Sum.elim (fun r2=>ke (.inl ()))
  (fun r3=>ke (.inr (()))) r1
 o:=fun Z p e K=>Sum.elim (fun e=>K .ret ⟨[(4,.v (.ptr 6 0))],[],⟨[.cells .bool p.1.1,.cells (.pair .bool .bool) p.1.2.1,.cells cAlarm p.1.2.2.1,.cells .bool p.1.t3.1,.cells (.pair .bool .bool) p.1.t4.1,.cells cAlarm p.1.t5,.opn [.bool false]],0⟩,6⟩) (fun e=>K .normal ⟨[(4,.v (.ptr 6 0))],[],⟨[.cells .bool p.1.1,.cells (.pair .bool .bool) p.1.2.1,.cells cAlarm p.1.2.2.1,.cells .bool p.1.t3.1,.cells (.pair .bool .bool) p.1.t4.1,.cells cAlarm p.1.t5,.opn [.bool p.2]],0⟩,6⟩) e
 pol:=⟨[3,4,7],[],[],[]⟩
 pe:=[(.ret,⟨[4],[],[],[]⟩),(.normal,⟨[4],[],[],[]⟩)]
def f24_c {X:Type} (a:Y37) (K:Bool->Option X):Option X:=
 (f24_q2.m (a,false)).bind fun e1=>
 Sum.elim (fun e2=>K false)
 (fun e3=>K true) e1
def f24_m:=fun a=>f24_c a some
def f24_sp:Spec:=f24_s.sp f24_m
noncomputable def f24_e:Env:=⟨fun k=>[].contains k,callsL [(43,f43v1_sp),(69,f69v4_sp)],fun X k s K=>if k=2 then f24_q2.q X s K else none⟩
theorem f24_q2_ok (hc:SimCall C f24_e.call):LoopSim f24_e.loop (vc par C true [] 13) (.rangeFunc (rfG (subAt [1,0,1,0] (bodyOf Tryz.f24))) (rfPs (subAt [1,0,1,0] (bodyOf Tryz.f24))) (rfA (subAt [1,0,1,0] (bodyOf Tryz.f24))) (rfB (subAt [1,0,1,0] (bodyOf Tryz.f24)))):=
 rO (env:=f24_e) hc (id:=240002) (ks:=[3,4]) f24_q2 (by intros;simp only [f24_q2,PD.m,nn])
theorem f24_ok:OK (6) 24 (f24_s.sp f24_m):=
 fO (d:=5) (env:=f24_e) (callsL_sim (cc f43v1_ok (cc f69v4_ok cn))) (fn:=Tryz.f24) (mc:=@f24_c) (by intros;simp only [f24_m,f24_c,nn]) (hl:=fun hc=>(lp_of (by kernel_rfl) (lp_cons (f24_q2_ok hc) lp_nil)))
def f21_s:FS (Y31) ((List Int)) where
 sk:=⟨(.cons (.agg kGraph) (.cons (.lit (.slice (.int .i64))) (.cons (.int .i64) .nil))),[],0⟩
 a:=fun u=>((q8 u.1.1),u.1.2.1,u.1.2.2.1)
 n:=fun a=>(((w8 a.1),(a.2.1,(a.2.2,()))),())
 o:=fun Z a r K=>K (.lit (.int .i64) r) ⟨[],0⟩
def f21_l3:LD ((Y39)×(List (List Int))×Int×TGraph) (Int×(List (Int×TCover))) ((List (Int×TCover))) where
 sk:=⟨[(1,.v (.lit (.slice (.int .i64)))),(2,.v (.int .i64)),(3,.loc 0 0),(7,.v (.mp 0)),(23,.v (.lit (.slice (.int .i64)))),(24,.v (.int .i64)),(25,.v (.int .i64))],[kGraph],[.mapT (.int .i64) true cCover],0,0⟩
 p:=fun u=>((u.1.1,u.1.2.1),u.1.t3.1,u.1.t4.1,(q8 u.2.1.1))
 t:=fun u=>(u.1.t5.1,u.2.2.1)
 n:=fun p t=>((p.1.1,(p.1.2,((),(p.2.1,(p.2.2.1,(t.1,())))))),(((w8 p.t3),()),(t.2,())))
 st:=fun Y p t ki ke=>cond (decide (t.1<p.2.2.1))
  (ask (V.inRange t.1 (List.length p.2.1)) ((f37_m (p.2.2.2,(gx p.2.1 (Int.toNat t.1) []),p.1.2)).bind fun r1=>
  ki ((wi64 (t.1+(1:Int))),(setT (k:=(.int .i64)) t.1 r1.1 t.2))))
  (ke (t.2))
 o:=fun Z p e K=>K (.exit 0) ⟨[(1,.v (.lit (.slice (.int .i64)) p.1.1)),(3,.loc 0 0),(7,.v (.mp 0))],[[.lit cInstr p.t3.1,.int .i64 p.t4.1,.int .i64 p.t5.1,.int .i64 p.t6.1,.lit cInput p.t7.1,.lit cScalar p.t8.1,.lit cInput p.t9.1,.lit cAlarm p.t10]],⟨[.mapT (.int .i64) true cCover e],0⟩,0⟩
 pol:=⟨[1,2,3,7,23,24,25],[],[],[]⟩
 pe:=[(.exit 0,⟨[1,3,7],[],[],[]⟩)]
def f21_l12:LD ((List (List Int))×Int×TGraph×((List (Int×TCover))×((List (Int×TCover))×((List Int)×TCover)))) (Int×Int×Int) (Int) where
 sk:=⟨[(1,.v (.lit (.slice (.int .i64)))),(3,.loc 0 0),(7,.v (.mp 0)),(10,.v (.mp 1)),(11,.loc 1 0),(12,.v (.all 2)),(13,.v (.int .i64)),(14,.v (.int .i64)),(45,.v (.int .i64)),(46,.v (.int .i64))],[kGraph,(.cons (.all 3) (.cons (.all 4) (.cons (.all 5) .nil)))],[.mapT (.int .i64) true cCover,.mapT (.int .i64) true cCover,.cells (.int .i64),.cells .bool,.cells (.pair .bool .bool),.cells cAlarm],0,0⟩
 p:=fun u=>(u.1.1,u.1.t6.1,(q8 u.2.1.1),(q6 u.2.2))
 t:=fun u=>(u.1.t4.1,u.1.t5.1,u.1.t7.1)
 n:=fun p t=>((p.1,((),((),((),(t.1,(t.2.1,(p.2.1,(t.2.2,())))))))),(((w8 p.2.2.1),(((),((),((),()))),())),(w6 p.t3)))
 st:=fun Y p t ki ke=>cond (decide (t.2.2<p.2.1))
  (cond (hasT (k:=(.int .i64)) t.2.2 p.2.2.2.1)
  ((f44_m ((getT (k:=(.int .i64)) t.2.2 dCover p.2.2.2.1),p.2.2.2.2.2.2.1,p.2.2.2.2.2.2.2.1,p.2.2.2.2.2.2.2.2)).bind fun r1=>
  cond (decide (t.2.1<r1))
  ((f44_m ((getT (k:=(.int .i64)) t.2.2 dCover p.2.2.2.1),p.2.2.2.2.2.2.1,p.2.2.2.2.2.2.2.1,p.2.2.2.2.2.2.2.2)).bind fun r2=>
  ki (t.2.2,r2,(wi64 (t.2.2+(1:Int)))))
  (ki (t.1,t.2.1,(wi64 (t.2.2+(1:Int))))))
  (ki (t.1,t.2.1,(wi64 (t.2.2+(1:Int))))))
  (ke (t.1))
 o:=fun Z p e K=>K (.exit 4) ⟨[(1,.v (.lit (.slice (.int .i64)) p.1)),(3,.loc 0 0),(7,.v (.mp 0)),(10,.v (.mp 1)),(11,.loc 1 0),(12,.v (.all 2)),(13,.v (.int .i64 e))],[[.lit cInstr p.2.2.1.1,.int .i64 p.2.2.1.2.1,.int .i64 p.2.2.1.2.2.1,.int .i64 p.2.2.1.t3.1,.lit cInput p.2.2.1.t4.1,.lit cScalar p.2.2.1.t5.1,.lit cInput p.2.2.1.t6.1,.lit cAlarm p.2.2.1.t7],[.all 3,.all 4,.all 5]],⟨[.mapT (.int .i64) true cCover p.t3.1,.mapT (.int .i64) true cCover p.t4.1,.cells (.int .i64) p.t5.1,.cells .bool p.t6.1,.cells (.pair .bool .bool) p.t7.1,.cells cAlarm p.t8],0⟩,0⟩
 pol:=⟨[1,3,7,10,11,12,13,14,45,46],[],[],[]⟩
 pe:=[(.exit 4,⟨[1,3,7,10,11,12,13],[],[],[]⟩)]
def f21_l10:LD ((List (List Int))×TGraph) ((List (Int×TCover))×(List (Int×TCover))×(List Int)×(List Bool)×(List (Bool×Bool))×(List TAlarm)) ((List (Int×TCover))×(List Int)×(List Bool)×(List (Bool×Bool))×(List TAlarm)) where
 sk:=⟨[(1,.v (.lit (.slice (.int .i64)))),(3,.loc 0 0),(7,.v (.mp 0)),(10,.v (.mp 1)),(11,.loc 1 0),(12,.v (.all 2))],[kGraph,(.cons (.all 3) (.cons (.all 4) (.cons (.all 5) .nil)))],[.mapT (.int .i64) true cCover,.mapT (.int .i64) true cCover,.cells (.int .i64),.cells .bool,.cells (.pair .bool .bool),.cells cAlarm],0,0⟩
 p:=fun u=>(u.1.1,(q8 u.2.1.1))
 t:=fun u=>(u.2.2.1,u.t3.1,u.t4.1,u.t5.1,u.t6.1,u.t7.1)
 n:=fun p t=>((p.1,((),((),((),())))),(((w8 p.2),(((),((),((),()))),())),(w6 t)))
 st:=fun Y p t ki ke=>(loopAll (f21_l12.m (p.1,(nt (List.length p.1)),p.2,t)) ((-1),0,0)).bind fun e1=>
  cond (decide (e1<(0:Int)))
  (ke ((t.2.1,t.2.2.1,t.2.2.2.1,t.2.2.2.2.1,t.2.2.2.2.2)))
  (ask (decide (((List.length t.2.2.1)+(List.length ([e1]:List Int))) * 8<=70368744177664)&&decide (((List.length t.2.2.1)+(List.length ([e1]:List Int)))<9223372036854775808)) (cond (hasT (k:=(.int .i64)) e1 t.1)
  (cond (hasT (k:=(.int .i64)) e1 t.1)
  ((f23_m ((getT (k:=(.int .i64)) e1 dCover t.1),t.2.2.2.1,t.2.2.2.2.1,t.2.2.2.2.2)).bind fun r2=>
  ki ((delT (k:=(.int .i64)) e1 t.1),(setT (k:=(.int .i64)) e1 (getT (k:=(.int .i64)) e1 dCover t.1) t.2.1),(t.2.2.1++([e1]:List Int)),r2.1,r2.2.1,r2.2.2))
  ((f23v1_m (t.2.2.2.1,t.2.2.2.2.1,t.2.2.2.2.2)).bind fun r3=>
  ki ((delT (k:=(.int .i64)) e1 t.1),(setT (k:=(.int .i64)) e1 (getT (k:=(.int .i64)) e1 dCover t.1) t.2.1),(t.2.2.1++([e1]:List Int)),r3.1,r3.2.1,r3.2.2)))
  (cond (hasT (k:=(.int .i64)) e1 t.1)
  ((f23_m ((getT (k:=(.int .i64)) e1 dCover t.1),t.2.2.2.1,t.2.2.2.2.1,t.2.2.2.2.2)).bind fun r4=>
  ki ((delT (k:=(.int .i64)) e1 t.1),(setT (k:=(.int .i64)) e1 ([],([],[])) t.2.1),(t.2.2.1++([e1]:List Int)),r4.1,r4.2.1,r4.2.2))
  ((f23v1_m (t.2.2.2.1,t.2.2.2.2.1,t.2.2.2.2.2)).bind fun r5=>
  ki ((delT (k:=(.int .i64)) e1 t.1),(setT (k:=(.int .i64)) e1 ([],([],[])) t.2.1),(t.2.2.1++([e1]:List Int)),r5.1,r5.2.1,r5.2.2)))))
 o:=fun Z p e K=>K (.exit 2) ⟨[(3,.loc 0 0),(10,.v (.mp 0)),(11,.loc 1 0),(12,.v (.all 1))],[[.lit cInstr p.2.1,.int .i64 p.2.2.1,.int .i64 p.t3.1,.int .i64 p.t4.1,.lit cInput p.t5.1,.lit cScalar p.t6.1,.lit cInput p.t7.1,.lit cAlarm p.t8],[.all 2,.all 3,.all 4]],⟨[.mapT (.int .i64) true cCover e.1,.cells (.int .i64) e.2.1,.cells .bool e.2.2.1,.cells (.pair .bool .bool) e.t3.1,.cells cAlarm e.t4],0⟩,0⟩
 pol:=⟨[1,3,7,10,11,12],[(12,(.own (.int .i64)))],[],[]⟩
 pe:=[(.exit 2,⟨[3,10,11,12],[],[],[]⟩)]
def f21_l28:LD (Int×Int×TGraph×(List (Int×TCover))×(List Int)×TCover) (Y30) (Y3) where
 sk:=⟨[(3,.loc 0 0),(10,.v (.mp 0)),(11,.loc 1 0),(12,.v (.all 1)),(18,.v (.int .i64)),(19,.loc 2 0),(95,.v (.all 1)),(96,.v (.int .i64)),(97,.v (.int .i64))],[kGraph,(.cons (.all 2) (.cons (.all 3) (.cons (.all 4) .nil))),(.cons (.all 5) (.cons (.all 6) (.cons (.all 7) .nil)))],[.mapT (.int .i64) true cCover,.cells (.int .i64),.cells .bool,.cells (.pair .bool .bool),.cells cAlarm,.cells .bool,.cells (.pair .bool .bool),.cells cAlarm],0,0⟩
 p:=fun u=>(u.1.2.2.1,u.1.t4.1,(q8 u.2.1.1),u.2.2.1,u.t3.1,(q3 u.t4))
 t:=fun u=>(u.1.t5.1,u.t7.1,u.t8.1,u.t9.1)
 n:=fun p t=>(((),((),(p.1,((),(p.2.1,(t.1,())))))),(((w8 p.2.2.1),(((),((),((),()))),(((),((),((),()))),()))),(p.t3.1,(p.t4.1,(p.t5.1,(p.t6.1,(p.t7,(w3 t.2))))))))
 st:=fun Y p t ki ke=>cond (decide (t.1<p.2.1))
  (ask (V.inRange t.1 (List.length p.2.2.2.2.1)) (cond (!(decide (t.1=p.1)))
  (cond (hasT (k:=(.int .i64)) (gx p.2.2.2.2.1 (Int.toNat t.1) (0:Int)) p.2.2.2.1)
  ((f23_m ((getT (k:=(.int .i64)) (gx p.2.2.2.2.1 (Int.toNat t.1) (0:Int)) dCover p.2.2.2.1),t.2.1,t.2.2.1,t.2.2.2)).bind fun r1=>
  ki ((wi64 (t.1+(1:Int))),r1.1,r1.2.1,r1.2.2))
  ((f23v1_m (t.2.1,t.2.2.1,t.2.2.2)).bind fun r2=>
  ki ((wi64 (t.1+(1:Int))),r2.1,r2.2.1,r2.2.2)))
  (ki ((wi64 (t.1+(1:Int))),t.2.1,t.2.2.1,t.2.2.2))))
  (ke ((t.2.1,t.2.2.1,t.2.2.2)))
 o:=fun Z p e K=>K (.exit 8) ⟨[(3,.loc 0 0),(10,.v (.mp 0)),(11,.loc 1 0),(12,.v (.all 1)),(18,.v (.int .i64 p.1)),(19,.loc 2 0)],[[.lit cInstr p.2.2.1.1,.int .i64 p.2.2.1.2.1,.int .i64 p.2.2.1.2.2.1,.int .i64 p.2.2.1.t3.1,.lit cInput p.2.2.1.t4.1,.lit cScalar p.2.2.1.t5.1,.lit cInput p.2.2.1.t6.1,.lit cAlarm p.2.2.1.t7],[.all 2,.all 3,.all 4],[.all 5,.all 6,.all 7]],⟨[.mapT (.int .i64) true cCover p.t3.1,.cells (.int .i64) p.t4.1,.cells .bool p.t5.1,.cells (.pair .bool .bool) p.t6.1,.cells cAlarm p.t7,.cells .bool e.1,.cells (.pair .bool .bool) e.2.1,.cells cAlarm e.2.2],0⟩,0⟩
 pol:=⟨[3,10,11,12,18,19,95,96,97],[],[],[]⟩
 pe:=[(.exit 8,⟨[3,10,11,12,18,19],[],[],[]⟩)]
def f21_l24:LD (TGraph×(List (Int×TCover))×TCover) (Int×(List Int)) ((List Int)) where
 sk:=⟨[(3,.loc 0 0),(10,.v (.mp 0)),(11,.loc 1 0),(12,.v (.all 1)),(18,.v (.int .i64))],[kGraph,(.cons (.all 2) (.cons (.all 3) (.cons (.all 4) .nil)))],[.mapT (.int .i64) true cCover,.cells (.int .i64),.cells .bool,.cells (.pair .bool .bool),.cells cAlarm],0,0⟩
 p:=fun u=>((q8 u.2.1.1),u.2.2.1,(q3 u.t4))
 t:=fun u=>(u.1.2.2.1,u.t3.1)
 n:=fun p t=>(((),((),(t.1,()))),(((w8 p.1),(((),((),((),()))),())),(p.2.1,(t.2,(w3 p.2.2)))))
 st:=fun Y p t ki ke=>cond (decide ((0:Int)<=t.1))
  ((f14_m p.1).bind fun r1=>
  (loopAll (f21_l28.m (t.1,(nt (List.length t.2)),p.1,p.2.1,t.2,p.2.2)) (0,r1.1,r1.2.1,r1.2.2)).bind fun e2=>
  (f24_m (p.2.2.1,p.2.2.2.1,p.2.2.2.2,e2.1,e2.2.1,e2.2.2)).bind fun r3=>
  cond r3
  ((f45_m (t.1,(wi64 (t.1+(1:Int))),t.2)).bind fun r4=>
  ki ((wi64 (t.1-(1:Int))),r4))
  (ki ((wi64 (t.1-(1:Int))),t.2)))
  (ke (t.2))
 o:=fun Z p e K=>K (.exit 6) ⟨[(12,.v (.all 0))],[],⟨[.cells (.int .i64) e],0⟩,0⟩
 pol:=⟨[3,10,11,12,18],[],[],[]⟩
 pe:=[(.exit 6,⟨[12],[],[],[]⟩)]
def f21_c {X:Type} (a:Y31) (K:(List Int)->Option X):Option X:=
 (loopAll (f21_l3.m (a.2,a.2.1,(nt (List.length a.2.1)),a.1)) (0,([]:List (Int×TCover)))).bind fun e1=>
 (f14_m a.1).bind fun r2=>
 (loopAll (f21_l10.m (a.2.1,a.1)) (e1,([]:List (Int×TCover)),[],r2.1,r2.2.1,r2.2.2)).bind fun e3=>
 (loopAll (f21_l24.m (a.1,e3.1,e3.2.2)) ((wi64 ((nt (List.length e3.2.1))-(1:Int))),e3.2.1)).bind fun e4=>
 (f46_m e4).bind fun r5=>
 K r5
def f21_m:=fun a=>f21_c a some
def f21_sp:Spec:=f21_s.sp f21_m
noncomputable def f21_e:Env:=⟨fun k=>[].contains k,callsL [(37,f37_sp),(14,f14_sp),(44,f44_sp),(23,(alt f23_s.tk f23_sp f23v1_sp)),(24,f24_sp),(45,f45_sp),(46,f46_sp)],fun X k s K=>if k=3 then f21_l3.q X s K else if k=12 then f21_l12.q X s K else if k=10 then f21_l10.q X s K else if k=28 then f21_l28.q X s K else if k=24 then f21_l24.q X s K else none⟩
noncomputable def f21_l3_c:Code:=subAt [1,1,0,1,0,0] (bodyOf Tryz.f21)
theorem f21_l3_ok (hc:SimCall C f21_e.call):LoopSim f21_e.loop (vc par C true [3,11,16,19] 122) (.loop f21_l3_c):=
 lO hc f21_l3 (by intros;simp only [f21_l3,LD.m,nn])
noncomputable def f21_l12_c:Code:=subAt [1,1,1,1,1,1,0,0,0,0,1,0,1,0,0] (bodyOf Tryz.f21)
theorem f21_l12_ok (hc:SimCall C f21_e.call):LoopSim f21_e.loop (vc par C true [3,11,16,19] 122) (.loop f21_l12_c):=
 lO hc f21_l12 (by intros;simp only [f21_l12,LD.m,nn])
noncomputable def f21_l10_c:Code:=subAt [1,1,1,1,1,1,0,0,0] (bodyOf Tryz.f21)
theorem f21_l10_ok (hc:SimCall C f21_e.call):LoopSim f21_e.loop (vc par C true [3,11,16,19] 122) (.loop f21_l10_c):=
 lO hc f21_l10 (by intros;simp only [f21_l10,LD.m,nn]) (hl:=(lp_of (by kernel_rfl) (lp_cons (f21_l12_ok hc) lp_nil)))
noncomputable def f21_l28_c:Code:=subAt [1,1,1,1,1,1,1,0,1,0,0,1,0,0,1,0,1,0,0] (bodyOf Tryz.f21)
theorem f21_l28_ok (hc:SimCall C f21_e.call):LoopSim f21_e.loop (vc par C true [3,11,16,19] 122) (.loop f21_l28_c):=
 lO hc f21_l28 (by intros;simp only [f21_l28,LD.m,nn])
noncomputable def f21_l24_c:Code:=subAt [1,1,1,1,1,1,1,0,1,0,0] (bodyOf Tryz.f21)
theorem f21_l24_ok (hc:SimCall C f21_e.call):LoopSim f21_e.loop (vc par C true [3,11,16,19] 122) (.loop f21_l24_c):=
 lO hc f21_l24 (by intros;simp only [f21_l24,LD.m,nn]) (hl:=(lp_of (by kernel_rfl) (lp_cons (f21_l28_ok hc) lp_nil)))
theorem f21_ok:OK (7) 21 (f21_s.sp f21_m):=
 fO (d:=6) (env:=f21_e) (callsL_sim (cc f37_ok (cc f14_ok (cc f44_ok (cA f23_ok (cc f23v1_ok (cc f24_ok (cc f45_ok (cc f46_ok cn))))))))) (fn:=Tryz.f21) (mc:=@f21_c) (by intros;simp only [f21_m,f21_c,nn]) (locs:=[3,11,16,19]) (sh:=(.lit (.int .i64))) (fz:=true) (hl:=fun hc=>(lp_of (by kernel_rfl) (lp_cons (f21_l3_ok hc) (lp_cons (f21_l10_ok hc) (lp_cons (f21_l24_ok hc) lp_nil)))))
def f20_s:FS (Y40) (Bool) where
 sk:=⟨(.cons (.lit (.int .i64)) (.cons (.lit (.int .i64)) .nil)),[],0⟩
 a:=fun u=>(u.1.1,u.1.2.1)
 n:=fun a=>((a.1,(a.2,())),())
 o:=fun Z a r K=>K (.bool r) ⟨[],0⟩
def f20_l4:LD ((Y40)) (Int) ((Unit) ⊕ (Unit)) where
 sk:=⟨[(0,.v (.lit (.int .i64))),(1,.v (.lit (.int .i64))),(5,.v (.int .i64))],[],[],0,0⟩
 p:=fun u=>(u.1.1,u.1.2.1)
 t:=fun u=>u.1.2.2.1
 n:=fun p t=>((p.1,(p.2,(t,()))),((),()))
 st:=fun Y p t ki ke=>cond (decide (t<(nt (List.length p.1))))
  (ask (V.inRange t (List.length p.1)) (ask (V.inRange t (List.length p.2)) (cond (!(decide ((gx p.1 (Int.toNat t) (0:Int))=(gx p.2 (Int.toNat t) (0:Int)))))
  (ke (.inl ()))
  (ki ((wi64 (t+(1:Int))))))))
  (ke (.inr (())))
 o:=fun Z p e K=>Sum.elim (fun e=>K .ret ⟨[(4,.v (.bool false))],[],⟨[],0⟩,0⟩) (fun e=>K (.exit 0) ⟨[],[],⟨[],0⟩,0⟩) e
 pol:=⟨[0,1,5],[],[],[]⟩
 pe:=[(.ret,⟨[4],[],[],[]⟩),(.exit 0,⟨[],[],[],[]⟩)]
def f20_c {X:Type} (a:Y40) (K:Bool->Option X):Option X:=
 cond (!(decide ((nt (List.length a.1))=(nt (List.length a.2)))))
 (K false)
 ((loopAll (f20_l4.m a) 0).bind fun e1=>
 Sum.elim (fun e2=>K false)
 (fun e3=>K true) e1)
def f20_m:=fun a=>f20_c a some
def f20_sp:Spec:=f20_s.sp f20_m
noncomputable def f20_e:Env:=⟨fun k=>[].contains k,callsL [],fun X k s K=>if k=4 then f20_l4.q X s K else none⟩
noncomputable def f20_l4_c:Code:=subAt [1,1,0,1,0,0] (bodyOf Tryz.f20)
theorem f20_l4_ok (hc:SimCall C f20_e.call):LoopSim f20_e.loop (vc par C true [] 26) (.loop f20_l4_c):=
 lO hc f20_l4 (by intros;simp only [f20_l4,LD.m,nn])
theorem f20_ok:OK (1) 20 (f20_s.sp f20_m):=
 fO (d:=0) (env:=f20_e) (callsL_sim cn) (fn:=Tryz.f20) (mc:=@f20_c) (by intros;simp only [f20_m,f20_c,nn]) (hl:=fun hc=>(lp_of (by kernel_rfl) (lp_cons (f20_l4_ok hc) lp_nil)))
def f68_s:FS (Int) (ByteArray) where
 sk:=⟨(.cons (.int .i64) .nil),[],0⟩
 a:=fun u=>u.1.1
 n:=fun a=>((a,()),())
 o:=fun Z a r K=>K (.str r) ⟨[],0⟩
def f68_c {X:Type} (a:Int) (K:ByteArray->Option X):Option X:=
 (f103_m (a,10)).bind fun r1=>
 K r1
def f68_m:=fun a=>f68_c a some
def f68_sp:Spec:=f68_s.sp f68_m
noncomputable def f68_e:Env:=⟨fun k=>[].contains k,callsL [(103,f103_sp)],fun X k s K=>none⟩
theorem f68_ok:OK (2) 68 (f68_s.sp f68_m):=
 fO (d:=1) (env:=f68_e) (callsL_sim (cc f103_ok cn)) (fn:=Tryz.f68) (mc:=@f68_c) (by intros;simp only [f68_m,f68_c,nn])
def f39_s:FS (Int) (ByteArray) where
 sk:=⟨(.cons (.int .i64) .nil),[],0⟩
 a:=fun u=>u.1.1
 n:=fun a=>((a,()),())
 o:=fun Z a r K=>K (.str r) ⟨[],0⟩
def f39_c {X:Type} (a:Int) (K:ByteArray->Option X):Option X:=
 (f68_m a).bind fun r1=>
 K r1
def f39_m:=fun a=>f39_c a some
def f39_sp:Spec:=f39_s.sp f39_m
noncomputable def f39_e:Env:=⟨fun k=>[].contains k,callsL [(68,f68_sp)],fun X k s K=>none⟩
theorem f39_ok:OK (3) 39 (f39_s.sp f39_m):=
 fO (d:=2) (env:=f39_e) (callsL_sim (cc f68_ok cn)) (fn:=Tryz.f39) (mc:=@f39_c) (by intros;simp only [f39_m,f39_c,nn])
def f40_s:FS (ByteArray×Int×Int) (ByteArray) where
 sk:=⟨kScalar,[],0⟩
 a:=fun u=>(u.1.1,u.1.2.1,u.1.2.2.1)
 n:=fun a=>((w3 a),())
 o:=fun Z a r K=>K (.str r) ⟨[],0⟩
def f40_c {X:Type} (a:ByteArray×Int×Int) (K:ByteArray->Option X):Option X:=
 ask (decide (ByteArray.size a.1+ByteArray.size (str [32])<=9223372036854775807)) ((f39_m a.2.1).bind fun r1=>
 ask (decide (ByteArray.size (a.1++(str [32]))+ByteArray.size r1<=9223372036854775807)) (ask (decide (ByteArray.size ((a.1++(str [32]))++r1)+ByteArray.size (str [32,111,102,32])<=9223372036854775807)) ((f39_m a.2.2).bind fun r2=>
 ask (decide (ByteArray.size (((a.1++(str [32]))++r1)++(str [32,111,102,32]))+ByteArray.size r2<=9223372036854775807)) (ask (decide (ByteArray.size ((((a.1++(str [32]))++r1)++(str [32,111,102,32]))++r2)+ByteArray.size (str [10])<=9223372036854775807)) (K (((((a.1++(str [32]))++r1)++(str [32,111,102,32]))++r2)++(str [10])))))))
def f40_m:=fun a=>f40_c a some
def f40_sp:Spec:=f40_s.sp f40_m
noncomputable def f40_e:Env:=⟨fun k=>[].contains k,callsL [(39,f39_sp)],fun X k s K=>none⟩
theorem f40_ok:OK (4) 40 (f40_s.sp f40_m):=
 fO (d:=3) (env:=f40_e) (callsL_sim (cc f39_ok cn)) (fn:=Tryz.f40) (mc:=@f40_c) (by intros;simp only [f40_m,f40_c,nn])
def f16_s:FS (Y41) (ByteArray) where
 sk:=⟨(.cons (.agg kGraph) (.cons (.agg (.cons (.all 0) (.cons (.all 1) (.cons (.all 2) .nil)))) .nil)),[.cells .bool,.cells (.pair .bool .bool),.cells cAlarm],0⟩
 a:=fun u=>((q8 u.1.1),u.2.1,u.2.2.1,u.t3.1)
 n:=fun a=>(((w8 a.1),(((),((),((),()))),())),(w3 a.2))
 o:=fun Z a r K=>K (.str r) ⟨[.cells .bool a.2.1,.cells (.pair .bool .bool) a.2.2.1,.cells cAlarm a.t3],0⟩
def f16_l8:LD (Int×Int×Int×Int×(List TInstr)×Int×Int×(Bool×Bool)×TGraph×TInstr×TCover×ByteArray) (Int×Int) (Int) where
 sk:=⟨[(2,.loc 0 0),(3,.loc 1 0),(5,.v (.int .i64)),(6,.v (.int .i64)),(7,.v (.int .i64)),(8,.v (.ptr 3 0)),(9,.v (.int .i64)),(10,.loc 2 0),(11,.v (.int .i64)),(20,.v (.lit cInstr)),(21,.v (.int .i64)),(22,.v (.int .i64)),(31,.v (.agg (.cons .bool (.cons .bool .nil)))),(32,.v (.int .i64))],[kGraph,(.cons (.all 0) (.cons (.all 1) (.cons (.all 2) .nil))),kInstr],[.cells .bool,.cells (.pair .bool .bool),.cells cAlarm,.bld (.all 4),.byt],0,3⟩
 p:=fun u=>(u.1.1,u.1.2.1,u.1.2.2.1,u.1.t4.1,u.1.t6.1,u.1.t7.1,u.1.t8.1,(u.1.t9.1.1,u.1.t9.1.2.1),(q8 u.2.1.1),(q8 u.2.1.2.2.1),(q3 u.2.2),u.t6.1)
 t:=fun u=>(u.1.t5.1,u.1.t10.1)
 n:=fun p t=>((p.1,(p.2.1,(p.2.2.1,((),(p.t3.1,(t.1,(p.t4.1,(p.t5.1,(p.t6.1,((p.t7.1.1,(p.t7.1.2,())),(t.2,()))))))))))),(((w8 p.t8.1),(((),((),((),()))),((w8 p.t9.1),()))),(p.t10.1.1,(p.t10.1.2.1,(p.t10.1.2.2,((),(p.t11,())))))))
 st:=fun Y p t ki ke=>cond (decide (t.2<(2:Int)))
  (cond (decide (t.2=(0:Int)))
  (cond p.2.2.2.2.2.2.2.1.1
  (ki ((wi64 (t.1+(1:Int))),(wi64 (t.2+(1:Int)))))
  (ki (t.1,(wi64 (t.2+(1:Int))))))
  (cond (decide (t.2=(1:Int)))
  (cond p.2.2.2.2.2.2.2.1.2
  (ki ((wi64 (t.1+(1:Int))),(wi64 (t.2+(1:Int)))))
  (ki (t.1,(wi64 (t.2+(1:Int))))))
  (none)))
  (ke (t.1))
 o:=fun Z p e K=>K (.exit 2) ⟨[(2,.loc 0 0),(3,.loc 1 0),(5,.v (.int .i64 p.1)),(6,.v (.int .i64 p.2.1)),(7,.v (.int .i64 p.2.2.1)),(8,.v (.ptr 3 0)),(9,.v (.int .i64 p.t3.1)),(10,.loc 2 0),(11,.v (.int .i64 e)),(20,.v (.lit cInstr p.t4.1)),(21,.v (.int .i64 p.t5.1)),(22,.v (.int .i64 p.t6.1))],[[.lit cInstr p.t8.1.1,.int .i64 p.t8.1.2.1,.int .i64 p.t8.1.2.2.1,.int .i64 p.t8.1.t3.1,.lit cInput p.t8.1.t4.1,.lit cScalar p.t8.1.t5.1,.lit cInput p.t8.1.t6.1,.lit cAlarm p.t8.1.t7],[.all 0,.all 1,.all 2],[.int .i64 p.t9.1.1,.int .i64 p.t9.1.2.1,.int .i64 p.t9.1.2.2.1,.int .i64 p.t9.1.t3.1,.int .i64 p.t9.1.t4.1,.int .i64 p.t9.1.t5.1,.int .i64 p.t9.1.t6.1,.int .i64 p.t9.1.t7]],⟨[.cells .bool p.t10.1.1,.cells (.pair .bool .bool) p.t10.1.2.1,.cells cAlarm p.t10.1.2.2,.bld (.all 4),.byt p.t11],0⟩,3⟩
 pol:=⟨[2,3,5,6,7,8,9,10,11,20,21,22,31,32],[],[],[]⟩
 pe:=[(.exit 2,⟨[2,3,5,6,7,8,9,10,11,20,21,22],[],[],[]⟩)]
def f16_l4:LD ((List TInstr)×Int×(TGraph×TCover)) (Int×Int×Int×Int×ByteArray) (Int×Int×Int×ByteArray) where
 sk:=⟨[(2,.loc 0 0),(3,.loc 1 0),(5,.v (.int .i64)),(6,.v (.int .i64)),(7,.v (.int .i64)),(8,.v (.ptr 3 0)),(20,.v (.lit cInstr)),(21,.v (.int .i64)),(22,.v (.int .i64))],[kGraph,(.cons (.all 0) (.cons (.all 1) (.cons (.all 2) .nil)))],[.cells .bool,.cells (.pair .bool .bool),.cells cAlarm,.bld (.all 4),.byt],0,3⟩
 p:=fun u=>(u.1.t4.1,u.1.t5.1,((q8 u.2.1.1),(q3 u.2.2)))
 t:=fun u=>(u.1.1,u.1.2.1,u.1.2.2.1,u.1.t6.1,u.t6.1)
 n:=fun p t=>((t.1,(t.2.1,(t.2.2.1,((),(p.1,(p.2.1,(t.t3.1,()))))))),(((w8 p.2.2.1),(((),((),((),()))),())),(p.t3.1,(p.t4.1,(p.t5,((),(t.t4,())))))))
 st:=fun Y p t ki ke=>cond (decide (t.2.2.2.1<p.2.1))
  (ask (V.inRange t.2.2.2.1 (List.length p.1)) (ask (V.inRange t.2.2.2.1 (List.length p.2.2.2.2.1)) ((loopAll (f16_l8.m (t.1,t.2.1,t.2.2.1,t.2.2.2.1,p.1,p.2.1,t.2.2.2.1,(gx p.2.2.2.2.1 (Int.toNat t.2.2.2.1) (false,false)),p.2.2.1,(gx p.1 (Int.toNat t.2.2.2.1) dInstr),p.2.2.2,t.2.2.2.2)) (0,0)).bind fun e1=>
  cond (decide ((gx p.1 (Int.toNat t.2.2.2.1) dInstr).1=(15:Int)))
  (ask (V.inRange t.2.2.2.1 (List.length p.2.2.2.1)) (cond (!(gx p.2.2.2.1 (Int.toNat t.2.2.2.1) false))
  ((f39_m t.2.2.2.1).bind fun r2=>
  ask (decide (ByteArray.size (str [110,111,32])+ByteArray.size r2<=9223372036854775807)) (ask (decide (ByteArray.size ((str [110,111,32])++r2)+ByteArray.size (str [10])<=9223372036854775807)) ((f38_m ((((str [110,111,32])++r2)++(str [10])),t.2.2.2.2)).bind fun r3=>
  ki (t.1,(wi64 (t.2.1+e1)),(wi64 (t.2.2.1+(2:Int))),(wi64 (t.2.2.2.1+(1:Int))),r3.2))))
  (ki ((wi64 (t.1+(1:Int))),(wi64 (t.2.1+e1)),(wi64 (t.2.2.1+(2:Int))),(wi64 (t.2.2.2.1+(1:Int))),t.2.2.2.2))))
  (cond (decide ((gx p.1 (Int.toNat t.2.2.2.1) dInstr).1=(21:Int)))
  (ask (V.inRange t.2.2.2.1 (List.length p.2.2.2.1)) (cond (!(gx p.2.2.2.1 (Int.toNat t.2.2.2.1) false))
  ((f39_m t.2.2.2.1).bind fun r4=>
  ask (decide (ByteArray.size (str [110,111,32])+ByteArray.size r4<=9223372036854775807)) (ask (decide (ByteArray.size ((str [110,111,32])++r4)+ByteArray.size (str [10])<=9223372036854775807)) ((f38_m ((((str [110,111,32])++r4)++(str [10])),t.2.2.2.2)).bind fun r5=>
  ki (t.1,(wi64 (t.2.1+e1)),t.2.2.1,(wi64 (t.2.2.2.1+(1:Int))),r5.2))))
  (ki ((wi64 (t.1+(1:Int))),(wi64 (t.2.1+e1)),t.2.2.1,(wi64 (t.2.2.2.1+(1:Int))),t.2.2.2.2))))
  (ask (V.inRange t.2.2.2.1 (List.length p.2.2.2.1)) (cond (!(gx p.2.2.2.1 (Int.toNat t.2.2.2.1) false))
  ((f39_m t.2.2.2.1).bind fun r6=>
  ask (decide (ByteArray.size (str [110,111,32])+ByteArray.size r6<=9223372036854775807)) (ask (decide (ByteArray.size ((str [110,111,32])++r6)+ByteArray.size (str [10])<=9223372036854775807)) ((f38_m ((((str [110,111,32])++r6)++(str [10])),t.2.2.2.2)).bind fun r7=>
  ki (t.1,(wi64 (t.2.1+e1)),(wi64 (t.2.2.1+(1:Int))),(wi64 (t.2.2.2.1+(1:Int))),r7.2))))
  (ki ((wi64 (t.1+(1:Int))),(wi64 (t.2.1+e1)),(wi64 (t.2.2.1+(1:Int))),(wi64 (t.2.2.2.1+(1:Int))),t.2.2.2.2))))))))
  (ke ((t.1,t.2.1,t.2.2.1,t.2.2.2.2)))
 o:=fun Z p e K=>K (.exit 0) ⟨[(2,.loc 0 0),(3,.loc 1 0),(5,.v (.int .i64 e.1)),(6,.v (.int .i64 e.2.1)),(7,.v (.int .i64 e.2.2.1)),(8,.v (.ptr 3 0))],[[.lit cInstr p.2.2.1.1,.int .i64 p.2.2.1.2.1,.int .i64 p.2.2.1.2.2.1,.int .i64 p.2.2.1.t3.1,.lit cInput p.2.2.1.t4.1,.lit cScalar p.2.2.1.t5.1,.lit cInput p.2.2.1.t6.1,.lit cAlarm p.2.2.1.t7],[.all 0,.all 1,.all 2]],⟨[.cells .bool p.t3.1,.cells (.pair .bool .bool) p.t4.1,.cells cAlarm p.t5,.bld (.all 4),.byt e.t3],0⟩,3⟩
 pol:=⟨[2,3,5,6,7,8,20,21,22],[],[],[]⟩
 pe:=[(.exit 0,⟨[2,3,5,6,7,8],[],[],[]⟩)]
def f16_l24:LD (Int×Int×Int×(List TInstr)×Int×(TGraph×TCover)) (Int×ByteArray) (ByteArray) where
 sk:=⟨[(2,.loc 0 0),(3,.loc 1 0),(5,.v (.int .i64)),(6,.v (.int .i64)),(7,.v (.int .i64)),(8,.v (.ptr 3 0)),(67,.v (.lit cInstr)),(68,.v (.int .i64)),(69,.v (.int .i64))],[kGraph,(.cons (.all 0) (.cons (.all 1) (.cons (.all 2) .nil)))],[.cells .bool,.cells (.pair .bool .bool),.cells cAlarm,.bld (.all 4),.byt],0,3⟩
 p:=fun u=>(u.1.1,u.1.2.1,u.1.2.2.1,u.1.t4.1,u.1.t5.1,((q8 u.2.1.1),(q3 u.2.2)))
 t:=fun u=>(u.1.t6.1,u.t6.1)
 n:=fun p t=>((p.1,(p.2.1,(p.2.2.1,((),(p.t3.1,(p.t4.1,(t.1,()))))))),(((w8 p.t5.1),(((),((),((),()))),())),(p.t6.1,(p.t7.1,(p.t8,((),(t.2,())))))))
 st:=fun Y p t ki ke=>cond (decide (t.1<p.2.2.2.2.1))
  (ask (V.inRange t.1 (List.length p.2.2.2.1)) (ask (V.inRange t.1 (List.length p.2.2.2.2.2.2.2.1)) (cond (decide ((gx p.2.2.2.1 (Int.toNat t.1) dInstr).1=(15:Int)))
  (ask (V.inRange t.1 (List.length p.2.2.2.2.2.2.1)) (cond (gx p.2.2.2.2.2.2.1 (Int.toNat t.1) false)
  (cond (!((gx p.2.2.2.2.2.2.2.1 (Int.toNat t.1) (false,false)).1==(gx p.2.2.2.2.2.2.2.1 (Int.toNat t.1) (false,false)).2))
  (cond (gx p.2.2.2.2.2.2.2.1 (Int.toNat t.1) (false,false)).2
  ((f39_m t.1).bind fun r1=>
  ask (decide (ByteArray.size (str [111,110,101,32,119,97,121,32])+ByteArray.size r1<=9223372036854775807)) (ask (decide (ByteArray.size ((str [111,110,101,32,119,97,121,32])++r1)+ByteArray.size (str [32])<=9223372036854775807)) (ask (decide (ByteArray.size (((str [111,110,101,32,119,97,121,32])++r1)++(str [32]))+ByteArray.size (str [49])<=9223372036854775807)) (ask (decide (ByteArray.size ((((str [111,110,101,32,119,97,121,32])++r1)++(str [32]))++(str [49]))+ByteArray.size (str [10])<=9223372036854775807)) ((f38_m ((((((str [111,110,101,32,119,97,121,32])++r1)++(str [32]))++(str [49]))++(str [10])),t.2)).bind fun r2=>
  ki ((wi64 (t.1+(1:Int))),r2.2))))))
  ((f39_m t.1).bind fun r3=>
  ask (decide (ByteArray.size (str [111,110,101,32,119,97,121,32])+ByteArray.size r3<=9223372036854775807)) (ask (decide (ByteArray.size ((str [111,110,101,32,119,97,121,32])++r3)+ByteArray.size (str [32])<=9223372036854775807)) (ask (decide (ByteArray.size (((str [111,110,101,32,119,97,121,32])++r3)++(str [32]))+ByteArray.size (str [48])<=9223372036854775807)) (ask (decide (ByteArray.size ((((str [111,110,101,32,119,97,121,32])++r3)++(str [32]))++(str [48]))+ByteArray.size (str [10])<=9223372036854775807)) ((f38_m ((((((str [111,110,101,32,119,97,121,32])++r3)++(str [32]))++(str [48]))++(str [10])),t.2)).bind fun r4=>
  ki ((wi64 (t.1+(1:Int))),r4.2)))))))
  (ki ((wi64 (t.1+(1:Int))),t.2)))
  (ki ((wi64 (t.1+(1:Int))),t.2))))
  (ki ((wi64 (t.1+(1:Int))),t.2)))))
  (ke (t.2))
 o:=fun Z p e K=>K (.exit 5) ⟨[(2,.loc 0 0),(3,.loc 1 0),(5,.v (.int .i64 p.1)),(6,.v (.int .i64 p.2.1)),(7,.v (.int .i64 p.2.2.1)),(8,.v (.ptr 3 0))],[[.lit cInstr p.t5.1.1,.int .i64 p.t5.1.2.1,.int .i64 p.t5.1.2.2.1,.int .i64 p.t5.1.t3.1,.lit cInput p.t5.1.t4.1,.lit cScalar p.t5.1.t5.1,.lit cInput p.t5.1.t6.1,.lit cAlarm p.t5.1.t7],[.all 0,.all 1,.all 2]],⟨[.cells .bool p.t6.1,.cells (.pair .bool .bool) p.t7.1,.cells cAlarm p.t8,.bld (.all 4),.byt e],0⟩,3⟩
 pol:=⟨[2,3,5,6,7,8,67,68,69],[],[],[]⟩
 pe:=[(.exit 5,⟨[2,3,5,6,7,8],[],[],[]⟩)]
def f16_c {X:Type} (a:Y41) (K:ByteArray->Option X):Option X:=
 (loopAll (f16_l4.m (a.1.1,(nt (List.length a.1.1)),a)) (0,0,0,0,ByteArray.empty)).bind fun e1=>
 (loopAll (f16_l24.m (e1.1,e1.2.1,e1.2.2.1,a.1.1,(nt (List.length a.1.1)),a)) (0,e1.2.2.2)).bind fun e2=>
 (f40_m ((str [112,108,97,99,101,115]),e1.1,(nt (List.length a.1.1)))).bind fun r3=>
 (f40_m ((str [119,97,121,115]),e1.2.1,e1.2.2.1)).bind fun r4=>
 ask (decide (ByteArray.size r3+ByteArray.size r4<=9223372036854775807)) (ask (decide (ByteArray.size (r3++r4)+ByteArray.size (str [101,114,114,111,114,115,32])<=9223372036854775807)) ((f39_m (nt (List.length a.2.2.2))).bind fun r5=>
 ask (decide (ByteArray.size ((r3++r4)++(str [101,114,114,111,114,115,32]))+ByteArray.size r5<=9223372036854775807)) (ask (decide (ByteArray.size (((r3++r4)++(str [101,114,114,111,114,115,32]))++r5)+ByteArray.size (str [10])<=9223372036854775807)) ((f41_m e2).bind fun r6=>
 ask (decide (ByteArray.size ((((r3++r4)++(str [101,114,114,111,114,115,32]))++r5)++(str [10]))+ByteArray.size r6<=9223372036854775807)) (K (((((r3++r4)++(str [101,114,114,111,114,115,32]))++r5)++(str [10]))++r6))))))
def f16_m:=fun a=>f16_c a some
def f16_sp:Spec:=f16_s.sp f16_m
noncomputable def f16_e:Env:=⟨fun k=>[].contains k,callsL [(39,f39_sp),(38,f38_sp),(40,f40_sp),(41,f41_sp)],fun X k s K=>if k=8 then f16_l8.q X s K else if k=4 then f16_l4.q X s K else if k=24 then f16_l24.q X s K else none⟩
noncomputable def f16_l8_c:Code:=subAt [1,1,1,0,1,0,0,1,1,0,0,1,1,0,1,0,0] (bodyOf Tryz.f16)
theorem f16_l8_ok (hc:SimCall C f16_e.call):LoopSim f16_e.loop (vc par C true [2,3,10,15,16] 127) (.loop f16_l8_c):=
 lO hc f16_l8 (by intros;simp only [f16_l8,LD.m,nn])
noncomputable def f16_l4_c:Code:=subAt [1,1,1,0,1,0,0] (bodyOf Tryz.f16)
theorem f16_l4_ok (hc:SimCall C f16_e.call):LoopSim f16_e.loop (vc par C true [2,3,10,15,16] 127) (.loop f16_l4_c):=
 lO hc f16_l4 (by intros;simp only [f16_l4,LD.m,nn]) (hl:=(lp_of (by kernel_rfl) (lp_cons (f16_l8_ok hc) lp_nil)))
noncomputable def f16_l24_c:Code:=subAt [1,1,1,1,0,1,0,0] (bodyOf Tryz.f16)
theorem f16_l24_ok (hc:SimCall C f16_e.call):LoopSim f16_e.loop (vc par C true [2,3,10,15,16] 127) (.loop f16_l24_c):=
 lO hc f16_l24 (by intros;simp only [f16_l24,LD.m,nn])
theorem f16_ok:OK (5) 16 (f16_s.sp f16_m):=
 fO (d:=4) (env:=f16_e) (callsL_sim (cc f39_ok (cc f38_ok (cc f40_ok (cc f41_ok cn))))) (fn:=Tryz.f16) (mc:=@f16_c) (by intros;simp only [f16_m,f16_c,nn]) (locs:=[2,3,10,15,16]) (hl:=fun hc=>(lp_of (by kernel_rfl) (lp_cons (f16_l4_ok hc) (lp_cons (f16_l24_ok hc) lp_nil))))
end
end Go.U
end
