/- The functions of the program as Lean functions, and that the evaluator says so. -/
import Derived.Test.YtjenflkegbmkkaaGreatDoorC6
set_option linter.unusedVariables false
set_option linter.unusedSimpArgs false
set_option linter.unusedSectionVars false
section
set_option maxRecDepth 100000
namespace Go.U
open Go Go.Proofs
noncomputable section
variable {C:V.Callee}
def f37_s:FS (Y4) (TCover×TOutcome×Int) where
 sk:=⟨(.cons (.agg kGraph) (.cons (.lit (.int .i64)) (.cons (.int .i64) .nil))),[],0⟩
 a:=fun u=>((q8 u.1.1),u.1.2.1,u.1.2.2.1)
 n:=fun a=>(((w8 a.1),(a.2.1,(a.2.2,()))),())
 o:=fun Z a r K=>K (.tup [.agg [.lit .bool r.1.1,.lit (.pair .bool .bool) r.1.2.1,.lit cAlarm r.1.2.2],.agg [.int .i64 r.2.1.1,.int .i64 r.2.1.2.1,.int .i64 r.2.1.2.2.1,.int .i64 r.2.1.t3.1,.int .i64 r.2.1.t4.1,.lit (.int .i64) r.2.1.t5.1,.lit (.slice (.int .i64)) r.2.1.t6.1,.lit (.slice (.int .i64)) r.2.1.t7],.int .i64 r.2.2]) ⟨[],0⟩
def f37_c {X:Type} (a:Y4) (K:(TCover×TOutcome×Int)->Option X):Option X:=
 (f14_m a.1).bind fun r1=>
 (f25_m (a.1,a.2.1,a.2.2,(-1),r1.1,r1.2.1,r1.2.2,0,a.1)).bind fun r2=>
 cond (decide (r2.1=(1:Int)))
 (K ((r2.2.2.2.2.2.2.2.1,(r2.2.2.2.2.2.2.2.2.1,([(r2.2.1,r2.2.2.1)]:List TAlarm))),(r2.1,(r2.2.1,(r2.2.2.1,(r2.2.2.2.1,(r2.2.2.2.2.1,(r2.2.2.2.2.2.1,r2.2.2.2.2.2.2.2.2.2.2)))))),r2.2.2.2.2.2.2.1))
 (K ((r2.2.2.2.2.2.2.2.1,(r2.2.2.2.2.2.2.2.2.1,r1.2.2)),(r2.1,(r2.2.1,(r2.2.2.1,(r2.2.2.2.1,(r2.2.2.2.2.1,(r2.2.2.2.2.2.1,r2.2.2.2.2.2.2.2.2.2.2)))))),r2.2.2.2.2.2.2.1))
def f37_m:=fun a=>f37_c a some
def f37_sp:Spec:=f37_s.sp f37_m
noncomputable def f37_e:Env:=⟨fun k=>[].contains k,callsL [(14,f14_sp),(25,f25_sp)],fun X k s K=>none⟩
theorem f37_ok:OK (5) 37 (f37_s.sp f37_m):=
 fO (d:=4) (env:=f37_e) (callsL_sim (cc f14_ok (cc f25_ok cn))) (fn:=Tryz.f37) (mc:=@f37_c) (by intros;simp only [f37_m,f37_c,nn]) (locs:=[6,7,12]) (sh:=(.tup [(.agg [(.lit .bool),(.lit (.pair .bool .bool)),(.lit cAlarm)]),(.agg [.any,.any,.any,.any,.any,(.lit (.int .i64)),(.lit (.slice (.int .i64))),(.lit (.slice (.int .i64)))]),.any])) (fz:=true)
def f43_s:FS (TCover) (Unit) where
 sk:=⟨(.cons (.agg kCover) .nil),[],0⟩
 a:=fun u=>(q3 u.1.1)
 n:=fun a=>(((w3 a),()),())
 o:=fun Z a r K=>K (.fn 69 [.ptr 0 0]) ⟨[.opn [.lit .bool a.1,.lit (.pair .bool .bool) a.2.1,.lit cAlarm a.2.2]],0⟩
def f43_c {X:Type} (a:TCover) (K:Unit->Option X):Option X:=
 K ()
def f43_m:=fun a=>f43_c a some
def f43_sp:Spec:=f43_s.sp f43_m
noncomputable def f43_e:Env:=⟨fun k=>[].contains k,callsL [],fun X k s K=>none⟩
theorem f43_ok:OK (1) 43 (f43_s.sp f43_m):=
 fO (d:=0) (env:=f43_e) (callsL_sim cn) (fn:=Tryz.f43) (mc:=@f43_c) (by intros;simp only [f43_m,f43_c,nn])
def f115_s:FS (Y27) (Int) where
 sk:=⟨(.cons (.all 0) (.cons (.agg kAlarm) .nil)),[.cells cAlarm],0⟩
 a:=fun u=>((u.1.2.1.1,u.1.2.1.2.1),u.2.1)
 n:=fun a=>(((),((a.1.1,(a.1.2,())),())),(a.2,()))
 o:=fun Z a r K=>K (.int .i64 r) ⟨[.cells cAlarm a.2],0⟩
def f115_l2:LD (Int×(TAlarm×(List TAlarm))) (Int) ((Int) ⊕ (Unit)) where
 sk:=⟨[(0,.v (.all 0)),(3,.loc 0 0),(7,.v (.int .i64)),(8,.v (.int .i64))],[kAlarm],[.cells cAlarm],0,1⟩
 p:=fun u=>(u.1.2.1,((u.2.1.1.1,u.2.1.1.2.1),u.2.2.1))
 t:=fun u=>u.1.2.2.1
 n:=fun p t=>(((),(p.1,(t,()))),(((p.2.1.1,(p.2.1.2,())),()),(p.2.2,())))
 st:=fun Y p t ki ke=>cond (decide (t<p.1))
  (ask (V.inRange t (List.length p.2.2)) (cond ((decide (p.2.1.1=(gx p.2.2 (Int.toNat t) dAlarm).1))&&((decide (p.2.1.2=(gx p.2.2 (Int.toNat t) dAlarm).2))&&true))
  (ke (.inl (t)))
  (ki ((wi64 (t+(1:Int)))))))
  (ke (.inr (())))
 o:=fun Z p e K=>Sum.elim (fun e=>K .ret ⟨[(4,.v (.int .i64 e))],[],⟨[.cells cAlarm p.2.2],0⟩,1⟩) (fun e=>K (.exit 0) ⟨[],[],⟨[.cells cAlarm p.2.2],0⟩,1⟩) e
 pol:=⟨[0,3,7,8],[],[],[]⟩
 pe:=[(.ret,⟨[4],[],[],[]⟩),(.exit 0,⟨[],[],[],[]⟩)]
def f115_c {X:Type} (a:Y27) (K:Int->Option X):Option X:=
 (loopAll (f115_l2.m ((nt (List.length a.2)),a)) 0).bind fun e1=>
 Sum.elim (fun e2=>K e2)
 (fun e3=>K (-1)) e1
def f115_m:=fun a=>f115_c a some
def f115_sp:Spec:=f115_s.sp f115_m
noncomputable def f115_e:Env:=⟨fun k=>[].contains k,callsL [],fun X k s K=>if k=2 then f115_l2.q X s K else none⟩
noncomputable def f115_l2_c:Code:=subAt [1,0,1,0,0] (bodyOf Tryz.f115)
theorem f115_l2_ok (hc:SimCall C f115_e.call):LoopSim f115_e.loop (vc par C true [3] 19) (.loop f115_l2_c):=
 lO hc f115_l2 (by intros;simp only [f115_l2,LD.m,nn])
theorem f115_ok:OK (1) 115 (f115_s.sp f115_m):=
 fO (d:=0) (env:=f115_e) (callsL_sim cn) (fn:=Tryz.f115) (mc:=@f115_c) (by intros;simp only [f115_m,f115_c,nn]) (locs:=[3]) (hl:=fun hc=>(lp_of (by kernel_rfl) (lp_cons (f115_l2_ok hc) lp_nil)))
def f72_s:FS (Y27) (Bool) where
 sk:=⟨(.cons (.all 0) (.cons (.agg kAlarm) .nil)),[.cells cAlarm],0⟩
 a:=fun u=>((u.1.2.1.1,u.1.2.1.2.1),u.2.1)
 n:=fun a=>(((),((a.1.1,(a.1.2,())),())),(a.2,()))
 o:=fun Z a r K=>K (.bool r) ⟨[.cells cAlarm a.2],0⟩
def f72_c {X:Type} (a:Y27) (K:Bool->Option X):Option X:=
 (f115_m (a.1,a.2)).bind fun r1=>
 K (decide ((0:Int)<=r1))
def f72_m:=fun a=>f72_c a some
def f72_sp:Spec:=f72_s.sp f72_m
noncomputable def f72_e:Env:=⟨fun k=>[].contains k,callsL [(115,f115_sp)],fun X k s K=>none⟩
theorem f72_ok:OK (2) 72 (f72_s.sp f72_m):=
 fO (d:=1) (env:=f72_e) (callsL_sim (cc f115_ok cn)) (fn:=Tryz.f72) (mc:=@f72_c) (by intros;simp only [f72_m,f72_c,nn]) (locs:=[3])
def f50_s:FS (Y28) (Bool) where
 sk:=⟨(.cons (.agg (.cons (.all 0) (.cons (.all 1) (.cons (.all 2) .nil)))) (.cons (.agg kThing) .nil)),[.cells .bool,.cells (.pair .bool .bool),.cells cAlarm],0⟩
 a:=fun u=>((q4 u.1.2.1),u.2.1,u.2.2.1,u.t3.1)
 n:=fun a=>((((),((),((),()))),((w4 a.1),())),(w3 a.2))
 o:=fun Z a r K=>K (.bool r) ⟨[.cells .bool a.2.1,.cells (.pair .bool .bool) a.2.2.1,.cells cAlarm a.t3],0⟩
def f50_c {X:Type} (a:Y28) (K:Bool->Option X):Option X:=
 cond (decide (a.1.1=(0:Int)))
 (cond (decide (a.1.2.1<(nt (List.length a.2.1))))
 (ask (V.inRange a.1.2.1 (List.length a.2.1)) (K (gx a.2.1 (Int.toNat a.1.2.1) false)))
 (K false))
 (cond (decide (a.1.1=(3:Int)))
 ((f72_m (a.1.2.2,a.2.2.2)).bind fun r1=>
 K r1)
 (cond (decide (a.1.2.1<(nt (List.length a.2.2.1))))
 (ask (V.inRange a.1.2.1 (List.length a.2.2.1)) (cond (decide ((wi64 (a.1.1-(1:Int)))=(0:Int)))
 (K (gx a.2.2.1 (Int.toNat a.1.2.1) (false,false)).1)
 (cond (decide ((wi64 (a.1.1-(1:Int)))=(1:Int)))
 (K (gx a.2.2.1 (Int.toNat a.1.2.1) (false,false)).2)
 (none))))
 (K false)))
def f50_m:=fun a=>f50_c a some
def f50_sp:Spec:=f50_s.sp f50_m
noncomputable def f50_e:Env:=⟨fun k=>[].contains k,callsL [(72,f72_sp)],fun X k s K=>none⟩
theorem f50_ok:OK (3) 50 (f50_s.sp f50_m):=
 fO (d:=2) (env:=f50_e) (callsL_sim (cc f72_ok cn)) (fn:=Tryz.f50) (mc:=@f50_c) (by intros;simp only [f50_m,f50_c,nn]) (locs:=[2,3])
def y230003_s:FS (Int×Int×Int×Int×(List Bool)×(List (Bool×Bool))×(List TAlarm)) (((List Bool)×(List (Bool×Bool))) ⊕ ((List TAlarm))) where
 sk:=⟨(.cons (.yl 0) (.cons (.agg kThing) .nil)),[.loop 230003 [(5,(.ptr 1 0))] .ready .normal,.opn kr1,.cells .bool,.cells (.pair .bool .bool),.cells cAlarm],0⟩
 a:=fun u=>(u.1.2.1.1,u.1.2.1.2.1,u.1.2.1.2.2.1,u.1.2.1.t3.1,u.t3.1,u.t4.1,u.t5.1)
 n:=fun a=>(((),((a.1,(a.2.1,(a.2.2.1,(a.t3.1,())))),())),(((),()),(((),((),((),()))),(w3 a.t4))))
 o:=fun Z a r K=>Sum.elim (fun e=>K (.bool true) ⟨[.loop 230003 [(5,.ptr 1 0)] .ready .normal,.opn [.all 2,.all 3,.all 4],.cells .bool e.1,.cells (.pair .bool .bool) e.2,.cells cAlarm a.t6],0⟩) (fun e=>K (.bool true) ⟨[.loop 230003 [(5,.ptr 1 0)] .ready .normal,.opn [.all 2,.all 3,.all 5],.cells .bool a.t4.1,.cells (.pair .bool .bool) a.t5.1,.dead,.cells cAlarm e],0⟩) r
def y230003_c {X:Type} (a:Int×Int×Int×Int×(List Bool)×(List (Bool×Bool))×(List TAlarm)) (K:((List Bool)×(List (Bool×Bool))) ⊕ ((List TAlarm))->Option X):Option X:=
 cond (decide (a.1=(0:Int)))
 (ask (V.inRange a.2.1 (List.length a.2.2.2.2.1)) (K (.inl ((List.set a.2.2.2.2.1 (Int.toNat a.2.1) true),a.2.2.2.2.2.1))))
 (cond (decide (a.1=(3:Int)))
 ((f50_m ((a.1,(a.2.1,(a.2.2.1,a.2.2.2.1))),a.2.2.2.2.1,a.2.2.2.2.2.1,a.2.2.2.2.2.2)).bind fun r1=>
 cond (!r1)
 (ask (decide (((List.length a.2.2.2.2.2.2)+(List.length ([(a.2.2.1,a.2.2.2.1)]:List TAlarm))) * 16<=70368744177664)&&decide (((List.length a.2.2.2.2.2.2)+(List.length ([(a.2.2.1,a.2.2.2.1)]:List TAlarm)))<9223372036854775808)) (K (.inr ((a.2.2.2.2.2.2++([(a.2.2.1,a.2.2.2.1)]:List TAlarm))))))
 (cond (decide (a.1<(3:Int)))
 (ask (V.inRange a.2.1 (List.length a.2.2.2.2.2.1)) (cond (decide ((wi64 (a.1-(1:Int)))=(0:Int)))
 (K (.inl (a.2.2.2.2.1,(List.set a.2.2.2.2.2.1 (Int.toNat a.2.1) (true,(gx a.2.2.2.2.2.1 (Int.toNat a.2.1) (false,false)).2)))))
 (cond (decide ((wi64 (a.1-(1:Int)))=(1:Int)))
 (K (.inl (a.2.2.2.2.1,(List.set a.2.2.2.2.2.1 (Int.toNat a.2.1) ((gx a.2.2.2.2.2.1 (Int.toNat a.2.1) (false,false)).1,true)))))
 (none))))
 (K (.inl (a.2.2.2.2.1,a.2.2.2.2.2.1)))))
 (cond (decide (a.1<(3:Int)))
 (ask (V.inRange a.2.1 (List.length a.2.2.2.2.2.1)) (cond (decide ((wi64 (a.1-(1:Int)))=(0:Int)))
 (K (.inl (a.2.2.2.2.1,(List.set a.2.2.2.2.2.1 (Int.toNat a.2.1) (true,(gx a.2.2.2.2.2.1 (Int.toNat a.2.1) (false,false)).2)))))
 (cond (decide ((wi64 (a.1-(1:Int)))=(1:Int)))
 (K (.inl (a.2.2.2.2.1,(List.set a.2.2.2.2.2.1 (Int.toNat a.2.1) ((gx a.2.2.2.2.2.1 (Int.toNat a.2.1) (false,false)).1,true)))))
 (none))))
 (K (.inl (a.2.2.2.2.1,a.2.2.2.2.2.1)))))
def y230003_m:=fun a=>y230003_c a some
def y230003_sp:Spec:=y230003_s.sp y230003_m
noncomputable def y230003_e:Env:=⟨fun k=>[].contains k,callsL [(50,f50_sp)],fun X k s K=>none⟩
theorem y230003_ok:OKY (4) y230003_sp:=
 ylOK (d:=3) (env:=y230003_e) (callsL_sim (cc f50_ok cn)) (id:=230003) (r:=rfT 230003) rfl (fun hc=>(lp_of (by kernel_rfl) lp_nil)) (fun hc=>(lp_of (by kernel_rfl) lp_nil)) (mc:=fun X a K=>y230003_c a K) (fun _ _ _=>by kernel_rfl) (by intros;simp only [y230003_m,y230003_c,nn]) (fun _=>rfl)
def f69_s:FS (Y29) (Y3) where
 sk:=⟨(.cons (.yl 1) (.cons (.ptr 0 0) .nil)),[.opn kCover,.loop 230003 [(5,(.ptr 2 0))] .ready .normal,.opn kr6,.cells .bool,.cells (.pair .bool .bool),.cells cAlarm],0⟩
 a:=fun u=>((q3 u.2.1),u.t4.1,u.t5.1,u.t6.1)
 n:=fun a=>(((),((),())),((w3 a.1),(((),()),(((),((),((),()))),(w3 a.2)))))
 o:=fun Z a r K=>K (.tup []) ⟨[.opn [.lit .bool a.1.1,.lit (.pair .bool .bool) a.1.2.1,.lit cAlarm a.1.2.2],.loop 230003 [(5,.ptr 2 0)] .ready .normal,.opn [.all 3,.all 4,.all 6],.cells .bool r.1,.cells (.pair .bool .bool) r.2.1,.dead,.cells cAlarm r.2.2],0⟩
def f69_l1:LD ((List Bool)×Int×TCover) (Y30) (Y3) where
 sk:=⟨[(0,.v (.yl 1)),(1,.v (.ptr 0 0)),(12,.v (.lit .bool)),(13,.v (.int .i64)),(14,.v (.int .i64))],[],[.opn kCover,.loop 230003 [(5,(.ptr 2 0))] .ready .normal,.opn kr7,.cells .bool,.cells (.pair .bool .bool),.dead,.cells cAlarm],0,6⟩
 p:=fun u=>(u.1.2.2.1,u.1.t3.1,(q3 u.2.2.1))
 t:=fun u=>(u.1.t4.1,u.t5.1,u.t6.1,u.t8.1)
 n:=fun p t=>(((),((),(p.1,(p.2.1,(t.1,()))))),((),((w3 p.2.2),(((),()),(((),((),((),()))),(t.2.1,(t.2.2.1,((),(t.t3,())))))))))
 st:=fun Y p t ki ke=>cond (decide (t.1<p.2.1))
  (ask (V.inRange t.1 (List.length p.1)) (cond (gx p.1 (Int.toNat t.1) false)
  ((y230003_m (0,t.1,0,0,t.2.1,t.2.2.1,t.2.2.2)).bind fun r1=>
  Sum.elim (fun r2=>ki ((wi64 (t.1+(1:Int))),r2.1,r2.2,t.2.2.2))
  (fun r3=>ki ((wi64 (t.1+(1:Int))),t.2.1,t.2.2.1,r3)) r1)
  (ki ((wi64 (t.1+(1:Int))),t.2.1,t.2.2.1,t.2.2.2))))
  (ke ((t.2.1,t.2.2.1,t.2.2.2)))
 o:=fun Z p e K=>K (.exit 0) ⟨[(0,.v (.yl 1)),(1,.v (.ptr 0 0))],[],⟨[.opn [.lit .bool p.2.2.1,.lit (.pair .bool .bool) p.t3.1,.lit cAlarm p.t4],.loop 230003 [(5,.ptr 2 0)] .ready .normal,.opn [.all 3,.all 4,.all 6],.cells .bool e.1,.cells (.pair .bool .bool) e.2.1,.dead,.cells cAlarm e.2.2],0⟩,6⟩
 pol:=⟨[0,1,12,13,14],[],[],[(2,[.any,.any,(.mv cAlarm)])]⟩
 pe:=[(.exit 0,⟨[0,1],[],[],[]⟩)]
def f69_l9:LD (Int×(List (Bool×Bool))×Int×Int×(Bool×Bool)×TCover) (Y30) (Y3) where
 sk:=⟨[(0,.v (.yl 1)),(1,.v (.ptr 0 0)),(5,.v (.int .i64)),(29,.v (.lit (.pair .bool .bool))),(30,.v (.int .i64)),(31,.v (.int .i64)),(36,.v (.agg (.cons .bool (.cons .bool .nil)))),(37,.v (.int .i64))],[],[.opn kCover,.loop 230003 [(5,(.ptr 2 0))] .ready .normal,.opn kr7,.cells .bool,.cells (.pair .bool .bool),.dead,.cells cAlarm],0,6⟩
 p:=fun u=>(u.1.2.2.1,u.1.t3.1,u.1.t4.1,u.1.t5.1,(u.1.t6.1.1,u.1.t6.1.2.1),(q3 u.2.2.1))
 t:=fun u=>(u.1.t7.1,u.t5.1,u.t6.1,u.t8.1)
 n:=fun p t=>(((),((),(p.1,(p.2.1,(p.2.2.1,(p.t3.1,((p.t4.1.1,(p.t4.1.2,())),(t.1,())))))))),((),((w3 p.t5),(((),()),(((),((),((),()))),(t.2.1,(t.2.2.1,((),(t.t3,())))))))))
 st:=fun Y p t ki ke=>cond (decide (t.1<(2:Int)))
  (cond (decide (t.1=(0:Int)))
  (cond p.2.2.2.2.1.1
  ((y230003_m ((wi64 ((1:Int)+t.1)),p.1,0,0,t.2.1,t.2.2.1,t.2.2.2)).bind fun r1=>
  Sum.elim (fun r2=>ki ((wi64 (t.1+(1:Int))),r2.1,r2.2,t.2.2.2))
  (fun r3=>ki ((wi64 (t.1+(1:Int))),t.2.1,t.2.2.1,r3)) r1)
  (ki ((wi64 (t.1+(1:Int))),t.2.1,t.2.2.1,t.2.2.2)))
  (cond (decide (t.1=(1:Int)))
  (cond p.2.2.2.2.1.2
  ((y230003_m ((wi64 ((1:Int)+t.1)),p.1,0,0,t.2.1,t.2.2.1,t.2.2.2)).bind fun r4=>
  Sum.elim (fun r5=>ki ((wi64 (t.1+(1:Int))),r5.1,r5.2,t.2.2.2))
  (fun r6=>ki ((wi64 (t.1+(1:Int))),t.2.1,t.2.2.1,r6)) r4)
  (ki ((wi64 (t.1+(1:Int))),t.2.1,t.2.2.1,t.2.2.2)))
  (none)))
  (ke ((t.2.1,t.2.2.1,t.2.2.2)))
 o:=fun Z p e K=>K (.exit 4) ⟨[(0,.v (.yl 1)),(1,.v (.ptr 0 0)),(29,.v (.lit (.pair .bool .bool) p.2.1)),(30,.v (.int .i64 p.2.2.1)),(31,.v (.int .i64 p.t3.1))],[],⟨[.opn [.lit .bool p.t5.1,.lit (.pair .bool .bool) p.t6.1,.lit cAlarm p.t7],.loop 230003 [(5,.ptr 2 0)] .ready .normal,.opn [.all 3,.all 4,.all 6],.cells .bool e.1,.cells (.pair .bool .bool) e.2.1,.dead,.cells cAlarm e.2.2],0⟩,6⟩
 pol:=⟨[0,1,5,29,30,31,36,37],[],[],[]⟩
 pe:=[(.exit 4,⟨[0,1,29,30,31],[],[],[]⟩)]
def f69_l6:LD ((List (Bool×Bool))×Int×TCover) (Y30) (Y3) where
 sk:=⟨[(0,.v (.yl 1)),(1,.v (.ptr 0 0)),(29,.v (.lit (.pair .bool .bool))),(30,.v (.int .i64)),(31,.v (.int .i64))],[],[.opn kCover,.loop 230003 [(5,(.ptr 2 0))] .ready .normal,.opn kr7,.cells .bool,.cells (.pair .bool .bool),.dead,.cells cAlarm],0,6⟩
 p:=fun u=>(u.1.2.2.1,u.1.t3.1,(q3 u.2.2.1))
 t:=fun u=>(u.1.t4.1,u.t5.1,u.t6.1,u.t8.1)
 n:=fun p t=>(((),((),(p.1,(p.2.1,(t.1,()))))),((),((w3 p.2.2),(((),()),(((),((),((),()))),(t.2.1,(t.2.2.1,((),(t.t3,())))))))))
 st:=fun Y p t ki ke=>cond (decide (t.1<p.2.1))
  (ask (V.inRange t.1 (List.length p.1)) ((loopAll (f69_l9.m (t.1,p.1,p.2.1,t.1,(gx p.1 (Int.toNat t.1) (false,false)),p.2.2)) (0,t.2.1,t.2.2.1,t.2.2.2)).bind fun e1=>
  ki ((wi64 (t.1+(1:Int))),e1.1,e1.2.1,e1.2.2)))
  (ke ((t.2.1,t.2.2.1,t.2.2.2)))
 o:=fun Z p e K=>K (.exit 2) ⟨[(0,.v (.yl 1)),(1,.v (.ptr 0 0))],[],⟨[.opn [.lit .bool p.2.2.1,.lit (.pair .bool .bool) p.t3.1,.lit cAlarm p.t4],.loop 230003 [(5,.ptr 2 0)] .ready .normal,.opn [.all 3,.all 4,.all 6],.cells .bool e.1,.cells (.pair .bool .bool) e.2.1,.dead,.cells cAlarm e.2.2],0⟩,6⟩
 pol:=⟨[0,1,29,30,31],[],[],[]⟩
 pe:=[(.exit 2,⟨[0,1],[],[],[]⟩)]
def f69_l15:LD ((List TAlarm)×Int×TCover) (Y30) (Y3) where
 sk:=⟨[(0,.v (.yl 1)),(54,.v (.lit cAlarm)),(55,.v (.int .i64)),(56,.v (.int .i64))],[],[.opn kCover,.loop 230003 [(5,(.ptr 2 0))] .ready .normal,.opn kr7,.cells .bool,.cells (.pair .bool .bool),.dead,.cells cAlarm],0,6⟩
 p:=fun u=>(u.1.2.1,u.1.2.2.1,(q3 u.2.2.1))
 t:=fun u=>(u.1.t3.1,u.t5.1,u.t6.1,u.t8.1)
 n:=fun p t=>(((),(p.1,(p.2.1,(t.1,())))),((),((w3 p.2.2),(((),()),(((),((),((),()))),(t.2.1,(t.2.2.1,((),(t.t3,())))))))))
 st:=fun Y p t ki ke=>cond (decide (t.1<p.2.1))
  (ask (V.inRange t.1 (List.length p.1)) ((y230003_m (3,0,(gx p.1 (Int.toNat t.1) dAlarm).1,(gx p.1 (Int.toNat t.1) dAlarm).2,t.2.1,t.2.2.1,t.2.2.2)).bind fun r1=>
  Sum.elim (fun r2=>ki ((wi64 (t.1+(1:Int))),r2.1,r2.2,t.2.2.2))
  (fun r3=>ki ((wi64 (t.1+(1:Int))),t.2.1,t.2.2.1,r3)) r1))
  (ke ((t.2.1,t.2.2.1,t.2.2.2)))
 o:=fun Z p e K=>K (.exit 6) ⟨[],[],⟨[.opn [.lit .bool p.2.2.1,.lit (.pair .bool .bool) p.t3.1,.lit cAlarm p.t4],.loop 230003 [(5,.ptr 2 0)] .ready .normal,.opn [.all 3,.all 4,.all 6],.cells .bool e.1,.cells (.pair .bool .bool) e.2.1,.dead,.cells cAlarm e.2.2],0⟩,6⟩
 pol:=⟨[0,54,55,56],[],[],[]⟩
 pe:=[(.exit 6,⟨[],[],[],[]⟩)]
def f69_c {X:Type} (a:Y29) (K:Y3->Option X):Option X:=
 (loopAll (f69_l1.m (a.1.1,(nt (List.length a.1.1)),a.1)) (0,a.2.1,a.2.2.1,a.2.2.2)).bind fun e1=>
 (loopAll (f69_l6.m (a.1.2.1,(nt (List.length a.1.2.1)),a.1)) (0,e1.1,e1.2.1,e1.2.2)).bind fun e2=>
 (loopAll (f69_l15.m (a.1.2.2,(nt (List.length a.1.2.2)),a.1)) (0,e2.1,e2.2.1,e2.2.2)).bind fun e3=>
 K (e3.1,e3.2.1,e3.2.2)
def f69_m:=fun a=>f69_c a some
def f69_sp:Spec:=f69_s.sp f69_m
noncomputable def f69_e:Env:=⟨fun k=>[].contains k,callsYL [] [(230003,y230003_sp)],fun X k s K=>if k=1 then f69_l1.q X s K else if k=9 then f69_l9.q X s K else if k=6 then f69_l6.q X s K else if k=15 then f69_l15.q X s K else none⟩
noncomputable def f69_l1_c:Code:=subAt [0,1,0,0] (bodyOf Tryz.f69)
theorem f69_l1_ok (hc:SimCall C f69_e.call):LoopSim f69_e.loop (vc par C true [6,10] 66) (.loop f69_l1_c):=
 lO hc f69_l1 (by intros;simp only [f69_l1,LD.m,nn])
noncomputable def f69_l9_c:Code:=subAt [1,0,1,0,0,1,1,0,0,1,1,0,0] (bodyOf Tryz.f69)
theorem f69_l9_ok (hc:SimCall C f69_e.call):LoopSim f69_e.loop (vc par C true [6,10] 66) (.loop f69_l9_c):=
 lO hc f69_l9 (by intros;simp only [f69_l9,LD.m,nn])
noncomputable def f69_l6_c:Code:=subAt [1,0,1,0,0] (bodyOf Tryz.f69)
theorem f69_l6_ok (hc:SimCall C f69_e.call):LoopSim f69_e.loop (vc par C true [6,10] 66) (.loop f69_l6_c):=
 lO hc f69_l6 (by intros;simp only [f69_l6,LD.m,nn]) (hl:=(lp_of (by kernel_rfl) (lp_cons (f69_l9_ok hc) lp_nil)))
noncomputable def f69_l15_c:Code:=subAt [1,1,1,0,0] (bodyOf Tryz.f69)
theorem f69_l15_ok (hc:SimCall C f69_e.call):LoopSim f69_e.loop (vc par C true [6,10] 66) (.loop f69_l15_c):=
 lO hc f69_l15 (by intros;simp only [f69_l15,LD.m,nn])
theorem f69_ok:OK (5) 69 (f69_s.sp f69_m):=
 fO (d:=4) (env:=f69_e) (callsYL_sim cn (ccy y230003_ok cyn)) (fn:=Tryz.f69) (mc:=@f69_c) (by intros;simp only [f69_m,f69_c,nn]) (locs:=[6,10]) (hl:=fun hc=>(lp_of (by kernel_rfl) (lp_cons (f69_l1_ok hc) (lp_cons (f69_l6_ok hc) (lp_cons (f69_l15_ok hc) lp_nil)))))
def f23_s:FS (Y29) (Y3) where
 sk:=⟨(.cons (.agg (.cons (.all 0) (.cons (.all 1) (.cons (.all 2) .nil)))) (.cons (.agg kCover) .nil)),[.cells .bool,.cells (.pair .bool .bool),.cells cAlarm],0⟩
 a:=fun u=>((q3 u.1.2.1),u.2.1,u.2.2.1,u.t3.1)
 n:=fun a=>((((),((),((),()))),((w3 a.1),())),(w3 a.2))
 o:=fun Z a r K=>K (.agg [.all 3,.all 4,.all 5]) ⟨[.cells .bool a.2.1,.cells (.pair .bool .bool) a.2.2.1,.cells cAlarm a.t3,.cells .bool r.1,.cells (.pair .bool .bool) r.2.1,.cells cAlarm r.2.2],0⟩
def f23_q3:PD (TCover×(List Bool)×(List (Bool×Bool))×(List TAlarm)×TCover) (Y3) where
 sk:=⟨[(4,.v (.ptr 3 0)),(5,.v (.ptr 4 0)),(18,.v (.fn 69 (.cons (.ptr 8 0) .nil)))],[],[.cells .bool,.cells (.pair .bool .bool),.cells cAlarm,.opn (.cons .nils (.cons .nils (.cons .nils .nil))),.opn (.cons (.all 5) (.cons (.all 6) (.cons (.all 7) .nil))),.cells .bool,.cells (.pair .bool .bool),.cells cAlarm,.opn kCover],0,3⟩
 p:=fun u=>((q3 u.2.2),u.t7.1,u.t8.1,u.t9.1,(q3 u.t10.1))
 n:=fun p=>(((),((),(((),()),()))),((),(p.1.1,(p.1.2.1,(p.1.2.2,(((),((),((),()))),(((),((),((),()))),(p.2.1,(p.2.2.1,(p.t3.1,((w3 p.t4),())))))))))))
 st:=fun Y p ke=>(f69_m (p.2.2.2.2,p.2.1,p.2.2.1,p.2.2.2.1)).bind fun r1=>
  ke ((r1.1,r1.2.1,r1.2.2))
 o:=fun Z p e K=>K .normal ⟨[(4,.v (.ptr 3 0)),(5,.v (.ptr 4 0))],[],⟨[.cells .bool p.1.1,.cells (.pair .bool .bool) p.1.2.1,.cells cAlarm p.1.2.2,.opn [.nils,.nils,.nils],.opn [.all 5,.all 6,.all 7],.cells .bool e.1,.cells (.pair .bool .bool) e.2.1,.cells cAlarm e.2.2],0⟩,3⟩
 pol:=⟨[4,5,18],[],[],[]⟩
 pe:=[(.normal,⟨[4,5],[],[],[]⟩)]
def f23_c {X:Type} (a:Y29) (K:Y3->Option X):Option X:=
 (f47_m a.2.1).bind fun r1=>
 (f48_m a.2.2.1).bind fun r2=>
 (f49_m a.2.2.2).bind fun r3=>
 (f23_q3.m (a.2,r1,r2,r3,a.1)).bind fun e4=>
 (f51_m e4.2.2).bind fun r5=>
 K (e4.1,e4.2.1,r5)
def f23_m:=fun a=>f23_c a some
def f23_sp:Spec:=f23_s.sp f23_m
noncomputable def f23_e:Env:=⟨fun k=>[].contains k,callsL [(47,f47_sp),(48,f48_sp),(49,f49_sp),(43,f43_sp),(69,f69_sp),(51,f51_sp)],fun X k s K=>if k=3 then f23_q3.q X s K else none⟩
theorem f23_q3_ok (hc:SimCall C f23_e.call):LoopSim f23_e.loop (vc par C true [] 63) (.rangeFunc (rfG (subAt [1,1,0,1,0] (bodyOf Tryz.f23))) (rfPs (subAt [1,1,0,1,0] (bodyOf Tryz.f23))) (rfA (subAt [1,1,0,1,0] (bodyOf Tryz.f23))) (rfB (subAt [1,1,0,1,0] (bodyOf Tryz.f23)))):=
 rO (env:=f23_e) hc (id:=230003) (ks:=[5]) f23_q3 (by intros;simp only [f23_q3,PD.m,nn])
theorem f23_ok:OK (6) 23 (f23_s.sp f23_m):=
 fO (d:=5) (env:=f23_e) (callsL_sim (cc f47_ok (cc f48_ok (cc f49_ok (cc f43_ok (cc f69_ok (cc f51_ok cn))))))) (fn:=Tryz.f23) (mc:=@f23_c) (by intros;simp only [f23_m,f23_c,nn]) (sh:=(.agg [(.own .bool),(.own (.pair .bool .bool)),(.own cAlarm)])) (hl:=fun hc=>(lp_of (by kernel_rfl) (lp_cons (f23_q3_ok hc) lp_nil)))
def f12_s:FS (Y31) (Y3) where
 sk:=⟨(.cons (.agg kGraph) (.cons (.lit (.slice (.int .i64))) (.cons (.int .i64) .nil))),[],0⟩
 a:=fun u=>((q8 u.1.1),u.1.2.1,u.1.2.2.1)
 n:=fun a=>(((w8 a.1),(a.2.1,(a.2.2,()))),())
 o:=fun Z a r K=>K (.agg [.all 0,.all 1,.all 2]) ⟨[.cells .bool r.1,.cells (.pair .bool .bool) r.2.1,.cells cAlarm r.2.2],0⟩
def f12_l3:LD (Int×(List (List Int))×Int×TGraph) (Y30) (Y3) where
 sk:=⟨[(2,.v (.int .i64)),(3,.loc 0 0),(6,.loc 1 0),(7,.loc 2 0),(15,.v (.lit (.slice (.int .i64)))),(16,.v (.int .i64)),(17,.v (.int .i64))],[kGraph,(.cons .nils (.cons .nils (.cons .nils .nil))),(.cons (.all 0) (.cons (.all 1) (.cons (.all 2) .nil)))],[.cells .bool,.cells (.pair .bool .bool),.cells cAlarm],0,0⟩
 p:=fun u=>(u.1.1,u.1.2.1,u.1.2.2.1,(q8 u.2.1.1))
 t:=fun u=>(u.1.t3.1,u.2.2.1,u.t3.1,u.t4.1)
 n:=fun p t=>((p.1,(p.2.1,(p.2.2.1,(t.1,())))),(((w8 p.t3),(((),((),((),()))),(((),((),((),()))),()))),(w3 t.2)))
 st:=fun Y p t ki ke=>cond (decide (t.1<p.2.2.1))
  (ask (V.inRange t.1 (List.length p.2.1)) ((f37_m (p.2.2.2,(gx p.2.1 (Int.toNat t.1) []),p.1)).bind fun r1=>
  (f23_m (r1.1,t.2.1,t.2.2.1,t.2.2.2)).bind fun r2=>
  ki ((wi64 (t.1+(1:Int))),r2.1,r2.2.1,r2.2.2)))
  (ke ((t.2.1,t.2.2.1,t.2.2.2)))
 o:=fun Z p e K=>K (.exit 0) ⟨[(6,.loc 0 0),(7,.loc 1 0)],[[.nils,.nils,.nils],[.all 0,.all 1,.all 2]],⟨[.cells .bool e.1,.cells (.pair .bool .bool) e.2.1,.cells cAlarm e.2.2],0⟩,0⟩
 pol:=⟨[2,3,6,7,15,16,17],[],[],[]⟩
 pe:=[(.exit 0,⟨[6,7],[],[],[]⟩)]
def f12_c {X:Type} (a:Y31) (K:Y3->Option X):Option X:=
 (f14_m a.1).bind fun r1=>
 (loopAll (f12_l3.m (a.2.2,a.2.1,(nt (List.length a.2.1)),a.1)) (0,r1.1,r1.2.1,r1.2.2)).bind fun e2=>
 K (e2.1,e2.2.1,e2.2.2)
def f12_m:=fun a=>f12_c a some
def f12_sp:Spec:=f12_s.sp f12_m
noncomputable def f12_e:Env:=⟨fun k=>[].contains k,callsL [(14,f14_sp),(37,f37_sp),(23,f23_sp)],fun X k s K=>if k=3 then f12_l3.q X s K else none⟩
noncomputable def f12_l3_c:Code:=subAt [1,1,0,1,0,0] (bodyOf Tryz.f12)
theorem f12_l3_ok (hc:SimCall C f12_e.call):LoopSim f12_e.loop (vc par C true [3,6,7,10,11] 34) (.loop f12_l3_c):=
 lO hc f12_l3 (by intros;simp only [f12_l3,LD.m,nn])
theorem f12_ok:OK (7) 12 (f12_s.sp f12_m):=
 fO (d:=6) (env:=f12_e) (callsL_sim (cc f14_ok (cc f37_ok (cc f23_ok cn)))) (fn:=Tryz.f12) (mc:=@f12_c) (by intros;simp only [f12_m,f12_c,nn]) (locs:=[3,6,7,10,11]) (sh:=(.agg [(.own .bool),(.own (.pair .bool .bool)),(.own cAlarm)])) (hl:=fun hc=>(lp_of (by kernel_rfl) (lp_cons (f12_l3_ok hc) lp_nil)))
def f43v1_s:FS (Y3) (Unit) where
 sk:=⟨(.cons (.agg (.cons (.all 0) (.cons (.all 1) (.cons (.all 2) .nil)))) .nil),[.cells .bool,.cells (.pair .bool .bool),.cells cAlarm],0⟩
 a:=fun u=>(u.2.1,u.2.2.1,u.t3.1)
 n:=fun a=>((((),((),((),()))),()),(w3 a))
 o:=fun Z a r K=>K (.fn 69 [.ptr 3 0]) ⟨[.cells .bool a.1,.cells (.pair .bool .bool) a.2.1,.cells cAlarm a.2.2,.opn [.all 0,.all 1,.all 2]],0⟩
def f43v1_c {X:Type} (a:Y3) (K:Unit->Option X):Option X:=
 K ()
def f43v1_m:=fun a=>f43v1_c a some
def f43v1_sp:Spec:=f43v1_s.sp f43v1_m
noncomputable def f43v1_e:Env:=⟨fun k=>[].contains k,callsL [],fun X k s K=>none⟩
theorem f43v1_ok:OK (1) 43 (f43v1_s.sp f43v1_m):=
 fO (d:=0) (env:=f43v1_e) (callsL_sim cn) (fn:=Tryz.f43) (mc:=@f43v1_c) (by intros;simp only [f43v1_m,f43v1_c,nn])
def y180000_s:FS (Int×Int×Int×Int×Int) (Int) where
 sk:=⟨(.cons (.yl 0) (.cons (.agg kThing) .nil)),[.loop 180000 [(3,(.ptr 1 0))] .ready .normal,.opn (.cons (.int .i64) .nil)],0⟩
 a:=fun u=>(u.1.2.1.1,u.1.2.1.2.1,u.1.2.1.2.2.1,u.1.2.1.t3.1,u.2.2.1.1)
 n:=fun a=>(((),((a.1,(a.2.1,(a.2.2.1,(a.t3.1,())))),())),(((),()),((a.t4,()),())))
 o:=fun Z a r K=>K (.bool true) ⟨[.loop 180000 [(3,.ptr 1 0)] .ready .normal,.opn [.int .i64 r]],0⟩
def y180000_c {X:Type} (a:Int×Int×Int×Int×Int) (K:Int->Option X):Option X:=
 K (wi64 (a.2.2.2.2+(1:Int)))
def y180000_m:=fun a=>y180000_c a some
def y180000_sp:Spec:=y180000_s.sp y180000_m
noncomputable def y180000_e:Env:=⟨fun k=>[].contains k,callsL [],fun X k s K=>none⟩
theorem y180000_ok:OKY (1) y180000_sp:=
 ylOK (d:=0) (env:=y180000_e) (callsL_sim cn) (id:=180000) (r:=rfT 180000) rfl (fun hc=>(lp_of (by kernel_rfl) lp_nil)) (fun hc=>(lp_of (by kernel_rfl) lp_nil)) (mc:=fun X a K=>y180000_c a K) (fun _ _ _=>by kernel_rfl) (by intros;simp only [y180000_m,y180000_c,nn]) (fun _=>rfl)
def f69v1_s:FS (Y32) (Int) where
 sk:=⟨(.cons (.yl 4) (.cons (.ptr 0 0) .nil)),[.opn kr8,.cells .bool,.cells (.pair .bool .bool),.cells cAlarm,.loop 180000 [(3,(.ptr 5 0))] .ready .normal,.opn (.cons (.int .i64) .nil)],0⟩
 a:=fun u=>(u.2.2.1,u.t3.1,u.t4.1,u.t6.1.1)
 n:=fun a=>(((),((),())),(((),((),((),()))),(a.1,(a.2.1,(a.2.2.1,(((),()),((a.t3,()),())))))))
 o:=fun Z a r K=>K (.tup []) ⟨[.opn [.all 1,.all 2,.all 3],.cells .bool a.1,.cells (.pair .bool .bool) a.2.1,.cells cAlarm a.2.2.1,.loop 180000 [(3,.ptr 5 0)] .ready .normal,.opn [.int .i64 r]],0⟩
def f69v1_l1:LD (Y30) (Int×Int) (Int) where
 sk:=⟨[(0,.v (.yl 4)),(1,.v (.ptr 0 0)),(12,.v (.all 1)),(13,.v (.int .i64)),(14,.v (.int .i64))],[],[.opn kr8,.cells .bool,.cells (.pair .bool .bool),.cells cAlarm,.loop 180000 [(3,(.ptr 5 0))] .ready .normal,.opn (.cons (.int .i64) .nil)],0,6⟩
 p:=fun u=>(u.1.t3.1,u.t3.1,u.t4.1,u.t5.1)
 t:=fun u=>(u.1.t4.1,u.t7.1.1)
 n:=fun p t=>(((),((),((),(p.1,(t.1,()))))),((),(((),((),((),()))),(p.2.1,(p.2.2.1,(p.t3,(((),()),((t.2,()),()))))))))
 st:=fun Y p t ki ke=>cond (decide (t.1<p.1))
  (ask (V.inRange t.1 (List.length p.2.1)) (cond (gx p.2.1 (Int.toNat t.1) false)
  ((y180000_m (0,t.1,0,0,t.2)).bind fun r1=>
  ki ((wi64 (t.1+(1:Int))),r1))
  (ki ((wi64 (t.1+(1:Int))),t.2))))
  (ke (t.2))
 o:=fun Z p e K=>K (.exit 0) ⟨[(0,.v (.yl 4)),(1,.v (.ptr 0 0))],[],⟨[.opn [.all 1,.all 2,.all 3],.cells .bool p.2.1,.cells (.pair .bool .bool) p.2.2.1,.cells cAlarm p.t3,.loop 180000 [(3,.ptr 5 0)] .ready .normal,.opn [.int .i64 e]],0⟩,6⟩
 pol:=⟨[0,1,12,13,14],[],[],[]⟩
 pe:=[(.exit 0,⟨[0,1],[],[],[]⟩)]
def f69v1_l9:LD (Y33) (Int×Int) (Int) where
 sk:=⟨[(0,.v (.yl 4)),(1,.v (.ptr 0 0)),(5,.v (.int .i64)),(29,.v (.all 2)),(30,.v (.int .i64)),(31,.v (.int .i64)),(36,.v (.agg (.cons .bool (.cons .bool .nil)))),(37,.v (.int .i64))],[],[.opn kr8,.cells .bool,.cells (.pair .bool .bool),.cells cAlarm,.loop 180000 [(3,(.ptr 5 0))] .ready .normal,.opn (.cons (.int .i64) .nil)],0,6⟩
 p:=fun u=>(u.1.2.2.1,u.1.t4.1,u.1.t5.1,(u.1.t6.1.1,u.1.t6.1.2.1),(q3 u.t3))
 t:=fun u=>(u.1.t7.1,u.t7.1.1)
 n:=fun p t=>(((),((),(p.1,((),(p.2.1,(p.2.2.1,((p.t3.1.1,(p.t3.1.2,())),(t.1,())))))))),((),(((),((),((),()))),(p.t4.1,(p.t5.1,(p.t6,(((),()),((t.2,()),()))))))))
 st:=fun Y p t ki ke=>cond (decide (t.1<(2:Int)))
  (cond (decide (t.1=(0:Int)))
  (cond p.2.2.2.1.1
  ((y180000_m ((wi64 ((1:Int)+t.1)),p.1,0,0,t.2)).bind fun r1=>
  ki ((wi64 (t.1+(1:Int))),r1))
  (ki ((wi64 (t.1+(1:Int))),t.2)))
  (cond (decide (t.1=(1:Int)))
  (cond p.2.2.2.1.2
  ((y180000_m ((wi64 ((1:Int)+t.1)),p.1,0,0,t.2)).bind fun r2=>
  ki ((wi64 (t.1+(1:Int))),r2))
  (ki ((wi64 (t.1+(1:Int))),t.2)))
  (none)))
  (ke (t.2))
 o:=fun Z p e K=>K (.exit 4) ⟨[(0,.v (.yl 4)),(1,.v (.ptr 0 0)),(29,.v (.all 2)),(30,.v (.int .i64 p.2.1)),(31,.v (.int .i64 p.2.2.1))],[],⟨[.opn [.all 1,.all 2,.all 3],.cells .bool p.t4.1,.cells (.pair .bool .bool) p.t5.1,.cells cAlarm p.t6,.loop 180000 [(3,.ptr 5 0)] .ready .normal,.opn [.int .i64 e]],0⟩,6⟩
 pol:=⟨[0,1,5,29,30,31,36,37],[],[],[]⟩
 pe:=[(.exit 4,⟨[0,1,29,30,31],[],[],[]⟩)]
def f69v1_l6:LD (Y30) (Int×Int) (Int) where
 sk:=⟨[(0,.v (.yl 4)),(1,.v (.ptr 0 0)),(29,.v (.all 2)),(30,.v (.int .i64)),(31,.v (.int .i64))],[],[.opn kr8,.cells .bool,.cells (.pair .bool .bool),.cells cAlarm,.loop 180000 [(3,(.ptr 5 0))] .ready .normal,.opn (.cons (.int .i64) .nil)],0,6⟩
 p:=fun u=>(u.1.t3.1,u.t3.1,u.t4.1,u.t5.1)
 t:=fun u=>(u.1.t4.1,u.t7.1.1)
 n:=fun p t=>(((),((),((),(p.1,(t.1,()))))),((),(((),((),((),()))),(p.2.1,(p.2.2.1,(p.t3,(((),()),((t.2,()),()))))))))
 st:=fun Y p t ki ke=>cond (decide (t.1<p.1))
  (ask (V.inRange t.1 (List.length p.2.2.1)) ((loopAll (f69v1_l9.m (t.1,p.1,t.1,(gx p.2.2.1 (Int.toNat t.1) (false,false)),p.2)) (0,t.2)).bind fun e1=>
  ki ((wi64 (t.1+(1:Int))),e1)))
  (ke (t.2))
 o:=fun Z p e K=>K (.exit 2) ⟨[(0,.v (.yl 4)),(1,.v (.ptr 0 0))],[],⟨[.opn [.all 1,.all 2,.all 3],.cells .bool p.2.1,.cells (.pair .bool .bool) p.2.2.1,.cells cAlarm p.t3,.loop 180000 [(3,.ptr 5 0)] .ready .normal,.opn [.int .i64 e]],0⟩,6⟩
 pol:=⟨[0,1,29,30,31],[],[],[]⟩
 pe:=[(.exit 2,⟨[0,1],[],[],[]⟩)]
def f69v1_l15:LD (Y30) (Int×Int) (Int) where
 sk:=⟨[(0,.v (.yl 4)),(54,.v (.all 3)),(55,.v (.int .i64)),(56,.v (.int .i64))],[],[.opn kr8,.cells .bool,.cells (.pair .bool .bool),.cells cAlarm,.loop 180000 [(3,(.ptr 5 0))] .ready .normal,.opn (.cons (.int .i64) .nil)],0,6⟩
 p:=fun u=>(u.1.2.2.1,u.t3.1,u.t4.1,u.t5.1)
 t:=fun u=>(u.1.t3.1,u.t7.1.1)
 n:=fun p t=>(((),((),(p.1,(t.1,())))),((),(((),((),((),()))),(p.2.1,(p.2.2.1,(p.t3,(((),()),((t.2,()),()))))))))
 st:=fun Y p t ki ke=>cond (decide (t.1<p.1))
  (ask (V.inRange t.1 (List.length p.2.2.2)) ((y180000_m (3,0,(gx p.2.2.2 (Int.toNat t.1) dAlarm).1,(gx p.2.2.2 (Int.toNat t.1) dAlarm).2,t.2)).bind fun r1=>
  ki ((wi64 (t.1+(1:Int))),r1)))
  (ke (t.2))
 o:=fun Z p e K=>K (.exit 6) ⟨[],[],⟨[.opn [.all 1,.all 2,.all 3],.cells .bool p.2.1,.cells (.pair .bool .bool) p.2.2.1,.cells cAlarm p.t3,.loop 180000 [(3,.ptr 5 0)] .ready .normal,.opn [.int .i64 e]],0⟩,6⟩
 pol:=⟨[0,54,55,56],[],[],[]⟩
 pe:=[(.exit 6,⟨[],[],[],[]⟩)]
def f69v1_c {X:Type} (a:Y32) (K:Int->Option X):Option X:=
 (loopAll (f69v1_l1.m ((nt (List.length a.1)),a.1,a.2.1,a.2.2.1)) (0,a.2.2.2)).bind fun e1=>
 (loopAll (f69v1_l6.m ((nt (List.length a.2.1)),a.1,a.2.1,a.2.2.1)) (0,e1)).bind fun e2=>
 (loopAll (f69v1_l15.m ((nt (List.length a.2.2.1)),a.1,a.2.1,a.2.2.1)) (0,e2)).bind fun e3=>
 K e3
def f69v1_m:=fun a=>f69v1_c a some
def f69v1_sp:Spec:=f69v1_s.sp f69v1_m
noncomputable def f69v1_e:Env:=⟨fun k=>[].contains k,callsYL [] [(180000,y180000_sp)],fun X k s K=>if k=1 then f69v1_l1.q X s K else if k=9 then f69v1_l9.q X s K else if k=6 then f69v1_l6.q X s K else if k=15 then f69v1_l15.q X s K else none⟩
noncomputable def f69v1_l1_c:Code:=subAt [0,1,0,0] (bodyOf Tryz.f69)
theorem f69v1_l1_ok (hc:SimCall C f69v1_e.call):LoopSim f69v1_e.loop (vc par C true [6,10] 66) (.loop f69v1_l1_c):=
 lO hc f69v1_l1 (by intros;simp only [f69v1_l1,LD.m,nn])
noncomputable def f69v1_l9_c:Code:=subAt [1,0,1,0,0,1,1,0,0,1,1,0,0] (bodyOf Tryz.f69)
theorem f69v1_l9_ok (hc:SimCall C f69v1_e.call):LoopSim f69v1_e.loop (vc par C true [6,10] 66) (.loop f69v1_l9_c):=
 lO hc f69v1_l9 (by intros;simp only [f69v1_l9,LD.m,nn])
noncomputable def f69v1_l6_c:Code:=subAt [1,0,1,0,0] (bodyOf Tryz.f69)
theorem f69v1_l6_ok (hc:SimCall C f69v1_e.call):LoopSim f69v1_e.loop (vc par C true [6,10] 66) (.loop f69v1_l6_c):=
 lO hc f69v1_l6 (by intros;simp only [f69v1_l6,LD.m,nn]) (hl:=(lp_of (by kernel_rfl) (lp_cons (f69v1_l9_ok hc) lp_nil)))
noncomputable def f69v1_l15_c:Code:=subAt [1,1,1,0,0] (bodyOf Tryz.f69)
theorem f69v1_l15_ok (hc:SimCall C f69v1_e.call):LoopSim f69v1_e.loop (vc par C true [6,10] 66) (.loop f69v1_l15_c):=
 lO hc f69v1_l15 (by intros;simp only [f69v1_l15,LD.m,nn])
theorem f69v1_ok:OK (2) 69 (f69v1_s.sp f69v1_m):=
 fO (d:=1) (env:=f69v1_e) (callsYL_sim cn (ccy y180000_ok cyn)) (fn:=Tryz.f69) (mc:=@f69v1_c) (by intros;simp only [f69v1_m,f69v1_c,nn]) (locs:=[6,10]) (hl:=fun hc=>(lp_of (by kernel_rfl) (lp_cons (f69v1_l1_ok hc) (lp_cons (f69v1_l6_ok hc) (lp_cons (f69v1_l15_ok hc) lp_nil)))))
def f18_s:FS (Y3) (Int) where
 sk:=⟨(.cons (.agg (.cons (.all 0) (.cons (.all 1) (.cons (.all 2) .nil)))) .nil),[.cells .bool,.cells (.pair .bool .bool),.cells cAlarm],0⟩
 a:=fun u=>(u.2.1,u.2.2.1,u.t3.1)
 n:=fun a=>((((),((),((),()))),()),(w3 a))
 o:=fun Z a r K=>K (.int .i64 r) ⟨[.cells .bool a.1,.cells (.pair .bool .bool) a.2.1,.cells cAlarm a.2.2],0⟩
def f18_q0:PD (TCover×Int) (Int) where
 sk:=⟨[(3,.v (.ptr 3 0)),(5,.v (.fn 69 (.cons (.ptr 4 0) .nil)))],[],[.cells .bool,.cells (.pair .bool .bool),.cells cAlarm,.opn (.cons (.int .i64) .nil),.opn (.cons (.all 0) (.cons (.all 1) (.cons (.all 2) .nil)))],0,3⟩
 p:=fun u=>((q3 u.2.2),u.t5.1.1)
 n:=fun p=>(((),(((),()),())),((),(p.1.1,(p.1.2.1,(p.1.2.2,((p.2,()),(((),((),((),()))),())))))))
 st:=fun Y p ke=>(f69v1_m (p.1.1,p.1.2.1,p.1.2.2,p.2)).bind fun r1=>
  ke (r1)
 o:=fun Z p e K=>K .normal ⟨[(3,.v (.ptr 3 0))],[],⟨[.cells .bool p.1.1,.cells (.pair .bool .bool) p.1.2.1,.cells cAlarm p.1.2.2,.opn [.int .i64 e]],0⟩,3⟩
 pol:=⟨[3,5],[],[],[]⟩
 pe:=[(.normal,⟨[3],[],[],[]⟩)]
def f18_c {X:Type} (a:Y3) (K:Int->Option X):Option X:=
 (f18_q0.m (a,0)).bind fun e1=>
 K e1
def f18_m:=fun a=>f18_c a some
def f18_sp:Spec:=f18_s.sp f18_m
noncomputable def f18_e:Env:=⟨fun k=>[].contains k,callsL [(43,f43v1_sp),(69,f69v1_sp)],fun X k s K=>if k=0 then f18_q0.q X s K else none⟩
theorem f18_q0_ok (hc:SimCall C f18_e.call):LoopSim f18_e.loop (vc par C true [] 10) (.rangeFunc (rfG (subAt [1,1,0,1,0] (bodyOf Tryz.f18))) (rfPs (subAt [1,1,0,1,0] (bodyOf Tryz.f18))) (rfA (subAt [1,1,0,1,0] (bodyOf Tryz.f18))) (rfB (subAt [1,1,0,1,0] (bodyOf Tryz.f18)))):=
 rO (env:=f18_e) hc (id:=180000) (ks:=[3]) f18_q0 (by intros;simp only [f18_q0,PD.m,nn])
theorem f18_ok:OK (3) 18 (f18_s.sp f18_m):=
 fO (d:=2) (env:=f18_e) (callsL_sim (cc f43v1_ok (cc f69v1_ok cn))) (fn:=Tryz.f18) (mc:=@f18_c) (by intros;simp only [f18_m,f18_c,nn]) (hl:=fun hc=>(lp_of (by kernel_rfl) (lp_cons (f18_q0_ok hc) lp_nil)))
def y440003_s:FS (Int×Int×Int×Int×(List Bool)×(List (Bool×Bool))×(List TAlarm)×Int) (Int) where
 sk:=⟨(.cons (.yl 0) (.cons (.agg kThing) .nil)),[.loop 440003 [(3,(.ptr 1 0)),(5,(.ptr 5 0))] .ready .normal,.opn kr1,.cells .bool,.cells (.pair .bool .bool),.cells cAlarm,.opn (.cons (.int .i64) .nil)],0⟩
 a:=fun u=>(u.1.2.1.1,u.1.2.1.2.1,u.1.2.1.2.2.1,u.1.2.1.t3.1,u.t3.1,u.t4.1,u.t5.1,u.t6.1.1)
 n:=fun a=>(((),((a.1,(a.2.1,(a.2.2.1,(a.t3.1,())))),())),(((),((),())),(((),((),((),()))),(a.t4.1,(a.t5.1,(a.t6.1,((a.t7,()),())))))))
 o:=fun Z a r K=>K (.bool true) ⟨[.loop 440003 [(3,.ptr 1 0),(5,.ptr 5 0)] .ready .normal,.opn [.all 2,.all 3,.all 4],.cells .bool a.t4.1,.cells (.pair .bool .bool) a.t5.1,.cells cAlarm a.t6.1,.opn [.int .i64 r]],0⟩
def y440003_c {X:Type} (a:Int×Int×Int×Int×(List Bool)×(List (Bool×Bool))×(List TAlarm)×Int) (K:Int->Option X):Option X:=
 (f50_m ((a.1,(a.2.1,(a.2.2.1,a.2.2.2.1))),a.2.2.2.2.1,a.2.2.2.2.2.1,a.2.2.2.2.2.2.1)).bind fun r1=>
 cond (!r1)
 (K (wi64 (a.2.2.2.2.2.2.2+(1:Int))))
 (K a.2.2.2.2.2.2.2)
def y440003_m:=fun a=>y440003_c a some
def y440003_sp:Spec:=y440003_s.sp y440003_m
noncomputable def y440003_e:Env:=⟨fun k=>[].contains k,callsL [(50,f50_sp)],fun X k s K=>none⟩
theorem y440003_ok:OKY (4) y440003_sp:=
 ylOK (d:=3) (env:=y440003_e) (callsL_sim (cc f50_ok cn)) (id:=440003) (r:=rfT 440003) rfl (fun hc=>(lp_of (by kernel_rfl) lp_nil)) (fun hc=>(lp_of (by kernel_rfl) lp_nil)) (mc:=fun X a K=>y440003_c a K) (fun _ _ _=>by kernel_rfl) (by intros;simp only [y440003_m,y440003_c,nn]) (fun _=>rfl)
def f69v2_s:FS (Y34) (Int) where
 sk:=⟨(.cons (.yl 1) (.cons (.ptr 0 0) .nil)),[.opn kCover,.loop 440003 [(3,(.ptr 2 0)),(5,(.ptr 6 0))] .ready .normal,.opn kr6,.cells .bool,.cells (.pair .bool .bool),.cells cAlarm,.opn (.cons (.int .i64) .nil)],0⟩
 a:=fun u=>((q3 u.2.1),u.t4.1,u.t5.1,u.t6.1,u.t7.1.1)
 n:=fun a=>(((),((),())),((w3 a.1),(((),((),())),(((),((),((),()))),(a.2.1,(a.2.2.1,(a.t3.1,((a.t4,()),()))))))))
 o:=fun Z a r K=>K (.tup []) ⟨[.opn [.lit .bool a.1.1,.lit (.pair .bool .bool) a.1.2.1,.lit cAlarm a.1.2.2],.loop 440003 [(3,.ptr 2 0),(5,.ptr 6 0)] .ready .normal,.opn [.all 3,.all 4,.all 5],.cells .bool a.2.1,.cells (.pair .bool .bool) a.2.2.1,.cells cAlarm a.t3.1,.opn [.int .i64 r]],0⟩
def f69v2_l1:LD ((List Bool)×Int×TCover×(List Bool)×(List (Bool×Bool))×(List TAlarm)) (Int×Int) (Int) where
 sk:=⟨[(0,.v (.yl 1)),(1,.v (.ptr 0 0)),(12,.v (.lit .bool)),(13,.v (.int .i64)),(14,.v (.int .i64))],[],[.opn kCover,.loop 440003 [(3,(.ptr 2 0)),(5,(.ptr 6 0))] .ready .normal,.opn kr6,.cells .bool,.cells (.pair .bool .bool),.cells cAlarm,.opn (.cons (.int .i64) .nil)],0,7⟩
 p:=fun u=>(u.1.2.2.1,u.1.t3.1,(q3 u.2.2.1),u.t5.1,u.t6.1,u.t7.1)
 t:=fun u=>(u.1.t4.1,u.t8.1.1)
 n:=fun p t=>(((),((),(p.1,(p.2.1,(t.1,()))))),((),((w3 p.2.2.1),(((),((),())),(((),((),((),()))),(p.t3.1,(p.t4.1,(p.t5,((t.2,()),())))))))))
 st:=fun Y p t ki ke=>cond (decide (t.1<p.2.1))
  (ask (V.inRange t.1 (List.length p.1)) (cond (gx p.1 (Int.toNat t.1) false)
  ((y440003_m (0,t.1,0,0,p.2.2.2.1,p.2.2.2.2.1,p.2.2.2.2.2,t.2)).bind fun r1=>
  ki ((wi64 (t.1+(1:Int))),r1))
  (ki ((wi64 (t.1+(1:Int))),t.2))))
  (ke (t.2))
 o:=fun Z p e K=>K (.exit 0) ⟨[(0,.v (.yl 1)),(1,.v (.ptr 0 0))],[],⟨[.opn [.lit .bool p.2.2.1.1,.lit (.pair .bool .bool) p.2.2.1.2.1,.lit cAlarm p.2.2.1.2.2],.loop 440003 [(3,.ptr 2 0),(5,.ptr 6 0)] .ready .normal,.opn [.all 3,.all 4,.all 5],.cells .bool p.t3.1,.cells (.pair .bool .bool) p.t4.1,.cells cAlarm p.t5,.opn [.int .i64 e]],0⟩,7⟩
 pol:=⟨[0,1,12,13,14],[],[],[]⟩
 pe:=[(.exit 0,⟨[0,1],[],[],[]⟩)]
def f69v2_l9:LD (Int×(List (Bool×Bool))×Int×Int×(Bool×Bool)×(TCover×TCover)) (Int×Int) (Int) where
 sk:=⟨[(0,.v (.yl 1)),(1,.v (.ptr 0 0)),(5,.v (.int .i64)),(29,.v (.lit (.pair .bool .bool))),(30,.v (.int .i64)),(31,.v (.int .i64)),(36,.v (.agg (.cons .bool (.cons .bool .nil)))),(37,.v (.int .i64))],[],[.opn kCover,.loop 440003 [(3,(.ptr 2 0)),(5,(.ptr 6 0))] .ready .normal,.opn kr6,.cells .bool,.cells (.pair .bool .bool),.cells cAlarm,.opn (.cons (.int .i64) .nil)],0,7⟩
 p:=fun u=>(u.1.2.2.1,u.1.t3.1,u.1.t4.1,u.1.t5.1,(u.1.t6.1.1,u.1.t6.1.2.1),((q3 u.2.2.1),(q3 u.t5)))
 t:=fun u=>(u.1.t7.1,u.t8.1.1)
 n:=fun p t=>(((),((),(p.1,(p.2.1,(p.2.2.1,(p.t3.1,((p.t4.1.1,(p.t4.1.2,())),(t.1,())))))))),((),((w3 p.t5.1),(((),((),())),(((),((),((),()))),(p.t6.1,(p.t7.1,(p.t8,((t.2,()),())))))))))
 st:=fun Y p t ki ke=>cond (decide (t.1<(2:Int)))
  (cond (decide (t.1=(0:Int)))
  (cond p.2.2.2.2.1.1
  ((y440003_m ((wi64 ((1:Int)+t.1)),p.1,0,0,p.2.2.2.2.2.2.1,p.2.2.2.2.2.2.2.1,p.2.2.2.2.2.2.2.2,t.2)).bind fun r1=>
  ki ((wi64 (t.1+(1:Int))),r1))
  (ki ((wi64 (t.1+(1:Int))),t.2)))
  (cond (decide (t.1=(1:Int)))
  (cond p.2.2.2.2.1.2
  ((y440003_m ((wi64 ((1:Int)+t.1)),p.1,0,0,p.2.2.2.2.2.2.1,p.2.2.2.2.2.2.2.1,p.2.2.2.2.2.2.2.2,t.2)).bind fun r2=>
  ki ((wi64 (t.1+(1:Int))),r2))
  (ki ((wi64 (t.1+(1:Int))),t.2)))
  (none)))
  (ke (t.2))
 o:=fun Z p e K=>K (.exit 4) ⟨[(0,.v (.yl 1)),(1,.v (.ptr 0 0)),(29,.v (.lit (.pair .bool .bool) p.2.1)),(30,.v (.int .i64 p.2.2.1)),(31,.v (.int .i64 p.t3.1))],[],⟨[.opn [.lit .bool p.t5.1.1,.lit (.pair .bool .bool) p.t5.1.2.1,.lit cAlarm p.t5.1.2.2],.loop 440003 [(3,.ptr 2 0),(5,.ptr 6 0)] .ready .normal,.opn [.all 3,.all 4,.all 5],.cells .bool p.t6.1,.cells (.pair .bool .bool) p.t7.1,.cells cAlarm p.t8,.opn [.int .i64 e]],0⟩,7⟩
 pol:=⟨[0,1,5,29,30,31,36,37],[],[],[]⟩
 pe:=[(.exit 4,⟨[0,1,29,30,31],[],[],[]⟩)]
def f69v2_l6:LD ((List (Bool×Bool))×Int×TCover×(List Bool)×(List (Bool×Bool))×(List TAlarm)) (Int×Int) (Int) where
 sk:=⟨[(0,.v (.yl 1)),(1,.v (.ptr 0 0)),(29,.v (.lit (.pair .bool .bool))),(30,.v (.int .i64)),(31,.v (.int .i64))],[],[.opn kCover,.loop 440003 [(3,(.ptr 2 0)),(5,(.ptr 6 0))] .ready .normal,.opn kr6,.cells .bool,.cells (.pair .bool .bool),.cells cAlarm,.opn (.cons (.int .i64) .nil)],0,7⟩
 p:=fun u=>(u.1.2.2.1,u.1.t3.1,(q3 u.2.2.1),u.t5.1,u.t6.1,u.t7.1)
 t:=fun u=>(u.1.t4.1,u.t8.1.1)
 n:=fun p t=>(((),((),(p.1,(p.2.1,(t.1,()))))),((),((w3 p.2.2.1),(((),((),())),(((),((),((),()))),(p.t3.1,(p.t4.1,(p.t5,((t.2,()),())))))))))
 st:=fun Y p t ki ke=>cond (decide (t.1<p.2.1))
  (ask (V.inRange t.1 (List.length p.1)) ((loopAll (f69v2_l9.m (t.1,p.1,p.2.1,t.1,(gx p.1 (Int.toNat t.1) (false,false)),p.2.2)) (0,t.2)).bind fun e1=>
  ki ((wi64 (t.1+(1:Int))),e1)))
  (ke (t.2))
 o:=fun Z p e K=>K (.exit 2) ⟨[(0,.v (.yl 1)),(1,.v (.ptr 0 0))],[],⟨[.opn [.lit .bool p.2.2.1.1,.lit (.pair .bool .bool) p.2.2.1.2.1,.lit cAlarm p.2.2.1.2.2],.loop 440003 [(3,.ptr 2 0),(5,.ptr 6 0)] .ready .normal,.opn [.all 3,.all 4,.all 5],.cells .bool p.t3.1,.cells (.pair .bool .bool) p.t4.1,.cells cAlarm p.t5,.opn [.int .i64 e]],0⟩,7⟩
 pol:=⟨[0,1,29,30,31],[],[],[]⟩
 pe:=[(.exit 2,⟨[0,1],[],[],[]⟩)]
def f69v2_l15:LD ((List TAlarm)×Int×TCover×(List Bool)×(List (Bool×Bool))×(List TAlarm)) (Int×Int) (Int) where
 sk:=⟨[(0,.v (.yl 1)),(54,.v (.lit cAlarm)),(55,.v (.int .i64)),(56,.v (.int .i64))],[],[.opn kCover,.loop 440003 [(3,(.ptr 2 0)),(5,(.ptr 6 0))] .ready .normal,.opn kr6,.cells .bool,.cells (.pair .bool .bool),.cells cAlarm,.opn (.cons (.int .i64) .nil)],0,7⟩
 p:=fun u=>(u.1.2.1,u.1.2.2.1,(q3 u.2.2.1),u.t5.1,u.t6.1,u.t7.1)
 t:=fun u=>(u.1.t3.1,u.t8.1.1)
 n:=fun p t=>(((),(p.1,(p.2.1,(t.1,())))),((),((w3 p.2.2.1),(((),((),())),(((),((),((),()))),(p.t3.1,(p.t4.1,(p.t5,((t.2,()),())))))))))
 st:=fun Y p t ki ke=>cond (decide (t.1<p.2.1))
  (ask (V.inRange t.1 (List.length p.1)) ((y440003_m (3,0,(gx p.1 (Int.toNat t.1) dAlarm).1,(gx p.1 (Int.toNat t.1) dAlarm).2,p.2.2.2.1,p.2.2.2.2.1,p.2.2.2.2.2,t.2)).bind fun r1=>
  ki ((wi64 (t.1+(1:Int))),r1)))
  (ke (t.2))
 o:=fun Z p e K=>K (.exit 6) ⟨[],[],⟨[.opn [.lit .bool p.2.2.1.1,.lit (.pair .bool .bool) p.2.2.1.2.1,.lit cAlarm p.2.2.1.2.2],.loop 440003 [(3,.ptr 2 0),(5,.ptr 6 0)] .ready .normal,.opn [.all 3,.all 4,.all 5],.cells .bool p.t3.1,.cells (.pair .bool .bool) p.t4.1,.cells cAlarm p.t5,.opn [.int .i64 e]],0⟩,7⟩
 pol:=⟨[0,54,55,56],[],[],[]⟩
 pe:=[(.exit 6,⟨[],[],[],[]⟩)]
def f69v2_c {X:Type} (a:Y34) (K:Int->Option X):Option X:=
 (loopAll (f69v2_l1.m (a.1.1,(nt (List.length a.1.1)),a.1,a.2.1,a.2.2.1,a.2.2.2.1)) (0,a.2.2.2.2)).bind fun e1=>
 (loopAll (f69v2_l6.m (a.1.2.1,(nt (List.length a.1.2.1)),a.1,a.2.1,a.2.2.1,a.2.2.2.1)) (0,e1)).bind fun e2=>
 (loopAll (f69v2_l15.m (a.1.2.2,(nt (List.length a.1.2.2)),a.1,a.2.1,a.2.2.1,a.2.2.2.1)) (0,e2)).bind fun e3=>
 K e3
def f69v2_m:=fun a=>f69v2_c a some
def f69v2_sp:Spec:=f69v2_s.sp f69v2_m
noncomputable def f69v2_e:Env:=⟨fun k=>[].contains k,callsYL [] [(440003,y440003_sp)],fun X k s K=>if k=1 then f69v2_l1.q X s K else if k=9 then f69v2_l9.q X s K else if k=6 then f69v2_l6.q X s K else if k=15 then f69v2_l15.q X s K else none⟩
noncomputable def f69v2_l1_c:Code:=subAt [0,1,0,0] (bodyOf Tryz.f69)
theorem f69v2_l1_ok (hc:SimCall C f69v2_e.call):LoopSim f69v2_e.loop (vc par C true [6,10] 66) (.loop f69v2_l1_c):=
 lO hc f69v2_l1 (by intros;simp only [f69v2_l1,LD.m,nn])
noncomputable def f69v2_l9_c:Code:=subAt [1,0,1,0,0,1,1,0,0,1,1,0,0] (bodyOf Tryz.f69)
theorem f69v2_l9_ok (hc:SimCall C f69v2_e.call):LoopSim f69v2_e.loop (vc par C true [6,10] 66) (.loop f69v2_l9_c):=
 lO hc f69v2_l9 (by intros;simp only [f69v2_l9,LD.m,nn])
noncomputable def f69v2_l6_c:Code:=subAt [1,0,1,0,0] (bodyOf Tryz.f69)
theorem f69v2_l6_ok (hc:SimCall C f69v2_e.call):LoopSim f69v2_e.loop (vc par C true [6,10] 66) (.loop f69v2_l6_c):=
 lO hc f69v2_l6 (by intros;simp only [f69v2_l6,LD.m,nn]) (hl:=(lp_of (by kernel_rfl) (lp_cons (f69v2_l9_ok hc) lp_nil)))
noncomputable def f69v2_l15_c:Code:=subAt [1,1,1,0,0] (bodyOf Tryz.f69)
theorem f69v2_l15_ok (hc:SimCall C f69v2_e.call):LoopSim f69v2_e.loop (vc par C true [6,10] 66) (.loop f69v2_l15_c):=
 lO hc f69v2_l15 (by intros;simp only [f69v2_l15,LD.m,nn])
theorem f69v2_ok:OK (5) 69 (f69v2_s.sp f69v2_m):=
 fO (d:=4) (env:=f69v2_e) (callsYL_sim cn (ccy y440003_ok cyn)) (fn:=Tryz.f69) (mc:=@f69v2_c) (by intros;simp only [f69v2_m,f69v2_c,nn]) (locs:=[6,10]) (hl:=fun hc=>(lp_of (by kernel_rfl) (lp_cons (f69v2_l1_ok hc) (lp_cons (f69v2_l6_ok hc) (lp_cons (f69v2_l15_ok hc) lp_nil)))))
def f44_s:FS (Y29) (Int) where
 sk:=⟨(.cons (.agg kCover) (.cons (.agg (.cons (.all 0) (.cons (.all 1) (.cons (.all 2) .nil)))) .nil)),[.cells .bool,.cells (.pair .bool .bool),.cells cAlarm],0⟩
 a:=fun u=>((q3 u.1.1),u.2.1,u.2.2.1,u.t3.1)
 n:=fun a=>(((w3 a.1),(((),((),((),()))),())),(w3 a.2))
 o:=fun Z a r K=>K (.int .i64 r) ⟨[.cells .bool a.2.1,.cells (.pair .bool .bool) a.2.2.1,.cells cAlarm a.t3],0⟩
def f44_q3:PD (TCover×Int×TCover) (Int) where
 sk:=⟨[(3,.v (.ptr 3 0)),(5,.v (.ptr 4 0)),(8,.v (.fn 69 (.cons (.ptr 5 0) .nil)))],[],[.cells .bool,.cells (.pair .bool .bool),.cells cAlarm,.opn (.cons (.all 0) (.cons (.all 1) (.cons (.all 2) .nil))),.opn (.cons (.int .i64) .nil),.opn kCover],0,3⟩
 p:=fun u=>((q3 u.2.2),u.t6.1.1,(q3 u.t7.1))
 n:=fun p=>(((),((),(((),()),()))),((),(p.1.1,(p.1.2.1,(p.1.2.2,(((),((),((),()))),((p.2.1,()),((w3 p.2.2),()))))))))
 st:=fun Y p ke=>(f69v2_m (p.2.2,p.1.1,p.1.2.1,p.1.2.2,p.2.1)).bind fun r1=>
  ke (r1)
 o:=fun Z p e K=>K .normal ⟨[(5,.v (.ptr 3 0))],[],⟨[.cells .bool p.1.1,.cells (.pair .bool .bool) p.1.2.1,.cells cAlarm p.1.2.2,.opn [.int .i64 e]],0⟩,3⟩
 pol:=⟨[3,5,8],[],[],[]⟩
 pe:=[(.normal,⟨[5],[],[],[]⟩)]
def f44_c {X:Type} (a:Y29) (K:Int->Option X):Option X:=
 (f44_q3.m (a.2,0,a.1)).bind fun e1=>
 K e1
def f44_m:=fun a=>f44_c a some
def f44_sp:Spec:=f44_s.sp f44_m
noncomputable def f44_e:Env:=⟨fun k=>[].contains k,callsL [(43,f43_sp),(69,f69v2_sp)],fun X k s K=>if k=3 then f44_q3.q X s K else none⟩
theorem f44_q3_ok (hc:SimCall C f44_e.call):LoopSim f44_e.loop (vc par C true [] 17) (.rangeFunc (rfG (subAt [1,1,0,1,0] (bodyOf Tryz.f44))) (rfPs (subAt [1,1,0,1,0] (bodyOf Tryz.f44))) (rfA (subAt [1,1,0,1,0] (bodyOf Tryz.f44))) (rfB (subAt [1,1,0,1,0] (bodyOf Tryz.f44)))):=
 rO (env:=f44_e) hc (id:=440003) (ks:=[3,5]) f44_q3 (by intros;simp only [f44_q3,PD.m,nn])
theorem f44_ok:OK (6) 44 (f44_s.sp f44_m):=
 fO (d:=5) (env:=f44_e) (callsL_sim (cc f43_ok (cc f69v2_ok cn))) (fn:=Tryz.f44) (mc:=@f44_c) (by intros;simp only [f44_m,f44_c,nn]) (hl:=fun hc=>(lp_of (by kernel_rfl) (lp_cons (f44_q3_ok hc) lp_nil)))
end
end Go.U
end
