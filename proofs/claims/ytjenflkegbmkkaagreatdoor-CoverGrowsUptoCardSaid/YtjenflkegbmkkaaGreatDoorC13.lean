/- The functions of the program as Lean functions, and that the evaluator says so. -/
import Derived.Test.YtjenflkegbmkkaaGreatDoorC12
set_option linter.unusedVariables false
set_option linter.unusedSimpArgs false
set_option linter.unusedSectionVars false
section
set_option maxRecDepth 100000
namespace Go.U
open Go Go.Proofs
noncomputable section
variable {C:V.Callee}
def f13_s:FS (Y37) (Bool) where
 sk:=⟨(.cons (.agg (.cons (.all 0) (.cons (.all 1) (.cons (.all 2) .nil)))) (.cons (.agg (.cons (.all 3) (.cons (.all 4) (.cons (.all 5) .nil)))) .nil)),[.cells .bool,.cells (.pair .bool .bool),.cells cAlarm,.cells .bool,.cells (.pair .bool .bool),.cells cAlarm],0⟩
 a:=fun u=>(u.2.1,u.2.2.1,u.t3.1,u.t4.1,u.t5.1,u.t6.1)
 n:=fun a=>((((),((),((),()))),(((),((),((),()))),())),(w6 a))
 o:=fun Z a r K=>K (.bool r) ⟨[.cells .bool a.1,.cells (.pair .bool .bool) a.2.1,.cells cAlarm a.2.2.1,.cells .bool a.t3.1,.cells (.pair .bool .bool) a.t4.1,.cells cAlarm a.t5],0⟩
def f13_l4:LD (((List Bool)×(Y38))) (Int) ((Unit) ⊕ (Unit)) where
 sk:=⟨[(2,.loc 0 0),(3,.loc 1 0),(5,.v (.int .i64))],[(.cons (.all 0) (.cons (.all 1) (.cons (.all 2) .nil))),(.cons (.all 3) (.cons (.all 4) (.cons (.all 5) .nil)))],[.cells .bool,.cells (.pair .bool .bool),.cells cAlarm,.cells .bool,.cells (.pair .bool .bool),.cells cAlarm],0,6⟩
 p:=fun u=>(q6 u.2.2)
 t:=fun u=>u.1.1
 n:=fun p t=>((t,()),((((),((),((),()))),(((),((),((),()))),())),(w6 p)))
 st:=fun Y p t ki ke=>cond (decide (t<(nt (List.length p.1))))
  (ask (V.inRange t (List.length p.1)) (ask (V.inRange t (List.length p.2.2.2.1)) (cond (!((gx p.1 (Int.toNat t) false)==(gx p.2.2.2.1 (Int.toNat t) false)))
  (ke (.inl ()))
  (ask (V.inRange t (List.length p.2.1)) (ask (V.inRange t (List.length p.2.2.2.2.1)) (cond (!(((gx p.2.1 (Int.toNat t) (false,false)).1==(gx p.2.2.2.2.1 (Int.toNat t) (false,false)).1)&&(((gx p.2.1 (Int.toNat t) (false,false)).2==(gx p.2.2.2.2.1 (Int.toNat t) (false,false)).2)&&true)))
  (ke (.inl ()))
  (ki ((wi64 (t+(1:Int)))))))))))
  (ke (.inr (())))
 o:=fun Z p e K=>Sum.elim (fun e=>K .ret ⟨[(4,.v (.bool false))],[],⟨[.cells .bool p.1,.cells (.pair .bool .bool) p.2.1,.cells cAlarm p.2.2.1,.cells .bool p.t3.1,.cells (.pair .bool .bool) p.t4.1,.cells cAlarm p.t5],0⟩,6⟩) (fun e=>K (.exit 0) ⟨[(2,.loc 0 0),(3,.loc 1 0)],[[.all 0,.all 1,.all 2],[.all 3,.all 4,.all 5]],⟨[.cells .bool p.1,.cells (.pair .bool .bool) p.2.1,.cells cAlarm p.2.2.1,.cells .bool p.t3.1,.cells (.pair .bool .bool) p.t4.1,.cells cAlarm p.t5],0⟩,6⟩) e
 pol:=⟨[2,3,5],[],[],[]⟩
 pe:=[(.ret,⟨[4],[],[],[]⟩),(.exit 0,⟨[2,3],[],[],[]⟩)]
def f13_l9:LD (((List Bool)×(Y38))) (Int) ((Unit) ⊕ (Unit)) where
 sk:=⟨[(2,.loc 0 0),(3,.loc 1 0),(6,.v (.int .i64))],[(.cons (.all 0) (.cons (.all 1) (.cons (.all 2) .nil))),(.cons (.all 3) (.cons (.all 4) (.cons (.all 5) .nil)))],[.cells .bool,.cells (.pair .bool .bool),.cells cAlarm,.cells .bool,.cells (.pair .bool .bool),.cells cAlarm],0,6⟩
 p:=fun u=>(q6 u.2.2)
 t:=fun u=>u.1.1
 n:=fun p t=>((t,()),((((),((),((),()))),(((),((),((),()))),())),(w6 p)))
 st:=fun Y p t ki ke=>cond (decide (t<(nt (List.length p.2.2.1))))
  (ask (V.inRange t (List.length p.2.2.1)) (ask (V.inRange t (List.length p.2.2.2.2.2)) (cond (!((decide ((gx p.2.2.1 (Int.toNat t) dAlarm).1=(gx p.2.2.2.2.2 (Int.toNat t) dAlarm).1))&&((decide ((gx p.2.2.1 (Int.toNat t) dAlarm).2=(gx p.2.2.2.2.2 (Int.toNat t) dAlarm).2))&&true)))
  (ke (.inl ()))
  (ki ((wi64 (t+(1:Int))))))))
  (ke (.inr (())))
 o:=fun Z p e K=>Sum.elim (fun e=>K .ret ⟨[(4,.v (.bool false))],[],⟨[.cells .bool p.1,.cells (.pair .bool .bool) p.2.1,.cells cAlarm p.2.2.1,.cells .bool p.t3.1,.cells (.pair .bool .bool) p.t4.1,.cells cAlarm p.t5],0⟩,6⟩) (fun e=>K (.exit 2) ⟨[],[],⟨[.cells .bool p.1,.cells (.pair .bool .bool) p.2.1,.cells cAlarm p.2.2.1,.cells .bool p.t3.1,.cells (.pair .bool .bool) p.t4.1,.cells cAlarm p.t5],0⟩,6⟩) e
 pol:=⟨[2,3,6],[],[],[]⟩
 pe:=[(.ret,⟨[4],[],[],[]⟩),(.exit 2,⟨[],[],[],[]⟩)]
def f13_c {X:Type} (a:Y37) (K:Bool->Option X):Option X:=
 cond (!(decide ((nt (List.length a.1))=(nt (List.length a.2.2.2.1)))))
 (K false)
 (cond (!(decide ((nt (List.length a.2.1))=(nt (List.length a.2.2.2.2.1)))))
 (K false)
 (cond (!(decide ((nt (List.length a.2.2.1))=(nt (List.length a.2.2.2.2.2)))))
 (K false)
 ((loopAll (f13_l4.m a) 0).bind fun e1=>
 Sum.elim (fun e2=>K false)
 (fun e3=>(loopAll (f13_l9.m a) 0).bind fun e4=>
 Sum.elim (fun e5=>K false)
 (fun e6=>K true) e4) e1)))
def f13_m:=fun a=>f13_c a some
def f13_sp:Spec:=f13_s.sp f13_m
noncomputable def f13_e:Env:=⟨fun k=>[].contains k,callsL [],fun X k s K=>if k=4 then f13_l4.q X s K else if k=9 then f13_l9.q X s K else none⟩
noncomputable def f13_l4_c:Code:=subAt [1,1,0,1,0,0] (bodyOf Tryz.f13)
theorem f13_l4_ok (hc:SimCall C f13_e.call):LoopSim f13_e.loop (vc par C true [2,3] 81) (.loop f13_l4_c):=
 lO hc f13_l4 (by intros;simp only [f13_l4,LD.m,nn])
noncomputable def f13_l9_c:Code:=subAt [1,1,1,0,1,0,0] (bodyOf Tryz.f13)
theorem f13_l9_ok (hc:SimCall C f13_e.call):LoopSim f13_e.loop (vc par C true [2,3] 81) (.loop f13_l9_c):=
 lO hc f13_l9 (by intros;simp only [f13_l9,LD.m,nn])
theorem f13_ok:OK (1) 13 (f13_s.sp f13_m):=
 fO (d:=0) (env:=f13_e) (callsL_sim cn) (fn:=Tryz.f13) (mc:=@f13_c) (by intros;simp only [f13_m,f13_c,nn]) (locs:=[2,3]) (hl:=fun hc=>(lp_of (by kernel_rfl) (lp_cons (f13_l4_ok hc) (lp_cons (f13_l9_ok hc) lp_nil))))
end
end Go.U
end
