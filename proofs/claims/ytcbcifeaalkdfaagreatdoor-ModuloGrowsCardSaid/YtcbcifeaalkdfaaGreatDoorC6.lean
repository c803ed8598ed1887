/- The functions of the program as Lean functions, and that the evaluator says so. -/
import Derived.Test.YtcbcifeaalkdfaaGreatDoorC5
set_option linter.unusedVariables false
set_option linter.unusedSimpArgs false
set_option linter.unusedSectionVars false
section
set_option maxRecDepth 100000
namespace Go.U
open Go Go.Proofs
noncomputable section
def f111_s:FS (Int) (Int) where
 sk:=⟨(.cons (.int .i64) .nil),[],0⟩
 a:=fun u=>u.1.1
 n:=fun a=>((a,()),())
 o:=fun Z a r K=>K (.int .u64 r) ⟨[],0⟩
def f111_c {X:Type} (a:Int) (K:Int→Option X):Option X:=
 cond (decide (a<(0:Int)))
 (K (wu64 ((wu64 (wi64 ((0:Int)-(wi64 (a+(1:Int))))))+(1:Int))))
 (K (wu64 a))
def f111_m (a:Int):Option (Int):=f111_c a some
def f111_sp:Spec:=f111_s.sp f111_m
noncomputable def f111_e:Env:=⟨fun k=>[].contains k,callsL [],fun X k s K=>none⟩
theorem f111_ok:OK (1) 111 (f111_s.sp f111_m):=
 fnOK (d:=0) (env:=f111_e) (callsL_sim cn) (fn:=Tryz.f111) (locs:=[]) (sh:= .any) (fz:=false) (by kernel_rfl) (fun hc=>(lp_of (by kernel_rfl) lp_nil)) (mc:=fun X a K=>f111_c a K) (fun _ _ _=>by kernel_rfl) (by intros;simp only [f111_m,f111_c,n1,n2,n3,n4,n5,n6,n7,n8]) (fun _=>rfl)
def f105_s:FS (Unit) (Unit) where
 sk:=⟨.nil,[],0⟩
 a:=fun u=>()
 n:=fun a=>((),())
 o:=fun Z a r K=>K (.agg [.bool true,.int .i64 0,.int .i64 0]) ⟨[],0⟩
def f105_c {X:Type} (a:Unit) (K:Unit→Option X):Option X:=
 K ()
def f105_m (a:Unit):Option (Unit):=f105_c a some
def f105_sp:Spec:=f105_s.sp f105_m
noncomputable def f105_e:Env:=⟨fun k=>[].contains k,callsL [],fun X k s K=>none⟩
theorem f105_ok:OK (1) 105 (f105_s.sp f105_m):=
 fnOK (d:=0) (env:=f105_e) (callsL_sim cn) (fn:=Tryz.f105) (locs:=[0]) (sh:= .any) (fz:=false) (by kernel_rfl) (fun hc=>(lp_of (by kernel_rfl) lp_nil)) (mc:=fun X a K=>f105_c a K) (fun _ _ _=>by kernel_rfl) (by intros;simp only [f105_m,f105_c,n1,n2,n3,n4,n5,n6,n7,n8]) (fun _=>rfl)
def f123_s:FS (Int×Int×Bool) (TCongr) where
 sk:=⟨(.cons (.int .u64) (.cons (.int .u64) (.cons .bool .nil))),[],0⟩
 a:=fun u=>(u.1.1,u.1.2.1,u.1.2.2.1)
 n:=fun a=>((a.1,(a.2.1,(a.2.2,()))),())
 o:=fun Z a r K=>K (.agg [.bool r.1,.int .i64 r.2.1,.int .i64 r.2.2]) ⟨[],0⟩
def f123_r2:PD ((Int×Bool)×Bool×Int×Int) (Bool) where
 sk:=⟨[(1,.v (.int .u64)),(2,.v .bool),(6,.loc 0 0)],[(.cons .bool (.cons (.int .i64) (.cons (.int .i64) .nil)))],[],0,0⟩
 p:=fun u=>((u.1.1,u.1.2.1),u.2.1.1.1,u.2.1.1.2.1,u.2.1.1.2.2.1)
 n:=fun p=>((p.1.1,(p.1.2,())),(((p.2.1,(p.2.2.1,(p.2.2.2,()))),()),()))
 st:=fun Y p ke=>cond p.1.2
  (ke ((decide (p.1.1≤(2147483648:Int)))))
  (ke (false))
 o:=fun Z p e K=>K .normal ⟨[(1,.v (.int .u64 p.1.1)),(2,.v (.bool p.1.2)),(6,.loc 0 0),(14,.v (.bool e))],[[.bool p.2.1,.int .i64 p.2.2.1,.int .i64 p.2.2.2]],⟨[],0⟩,0⟩
 pol:=⟨[1,2,6],[],[],[]⟩
 pe:=[(.normal,⟨[1,2,6,14],[],[],[]⟩)]
def f123_r4:PD ((Int×Bool)×Bool×Int×Int) (Bool) where
 sk:=⟨[(1,.v (.int .u64)),(2,.v .bool),(6,.loc 0 0)],[(.cons .bool (.cons (.int .i64) (.cons (.int .i64) .nil)))],[],0,0⟩
 p:=fun u=>((u.1.1,u.1.2.1),u.2.1.1.1,u.2.1.1.2.1,u.2.1.1.2.2.1)
 n:=fun p=>((p.1.1,(p.1.2,())),(((p.2.1,(p.2.2.1,(p.2.2.2,()))),()),()))
 st:=fun Y p ke=>cond (!p.1.2)
  (ke ((decide (p.1.1≤(2147483647:Int)))))
  (ke (false))
 o:=fun Z p e K=>K .normal ⟨[(1,.v (.int .u64 p.1.1)),(6,.loc 0 0),(24,.v (.bool e))],[[.bool p.2.1,.int .i64 p.2.2.1,.int .i64 p.2.2.2]],⟨[],0⟩,0⟩
 pol:=⟨[1,2,6],[],[],[]⟩
 pe:=[(.normal,⟨[1,6,24],[],[],[]⟩)]
def f123_r8:PD (Int×Int×Bool×Bool×Int×Int) (Bool) where
 sk:=⟨[(0,.v (.int .u64)),(1,.v (.int .u64)),(2,.v .bool),(6,.loc 0 0)],[(.cons .bool (.cons (.int .i64) (.cons (.int .i64) .nil)))],[],0,0⟩
 p:=fun u=>(u.1.1,u.1.2.1,u.1.2.2.1,u.2.1.1.1,u.2.1.1.2.1,u.2.1.1.2.2.1)
 n:=fun p=>((p.1,(p.2.1,(p.2.2.1,()))),(((p.2.2.2.1,(p.2.2.2.2.1,(p.2.2.2.2.2,()))),()),()))
 st:=fun Y p ke=>cond p.2.2.1
  (ke ((!(decide (p.2.1=(0:Int))))))
  (ke (false))
 o:=fun Z p e K=>K .normal ⟨[(0,.v (.int .u64 p.1)),(1,.v (.int .u64 p.2.1)),(6,.loc 0 0),(36,.v (.bool e))],[[.bool p.2.2.2.1,.int .i64 p.2.2.2.2.1,.int .i64 p.2.2.2.2.2]],⟨[],0⟩,0⟩
 pol:=⟨[0,1,2,6],[],[],[]⟩
 pe:=[(.normal,⟨[0,1,6,36],[],[],[]⟩)]
def f123_c9:PD (Int×Int×Bool×Bool×Int×Int) (Int) where
 sk:=⟨[(0,.v (.int .u64)),(1,.v (.int .u64)),(6,.loc 0 0),(36,.v .bool)],[(.cons .bool (.cons (.int .i64) (.cons (.int .i64) .nil)))],[],0,0⟩
 p:=fun u=>(u.1.1,u.1.2.1,u.1.2.2.1,u.2.1.1.1,u.2.1.1.2.1,u.2.1.1.2.2.1)
 n:=fun p=>((p.1,(p.2.1,(p.2.2.1,()))),(((p.2.2.2.1,(p.2.2.2.2.1,(p.2.2.2.2.2,()))),()),()))
 st:=fun Y p ke=>cond p.2.2.1
  (ke ((wu64 (p.1-p.2.1))))
  (ke (p.2.1))
 o:=fun Z p e K=>K .normal ⟨[(0,.v (.int .u64 p.1)),(1,.v (.int .u64 e)),(6,.loc 0 0)],[[.bool p.2.2.2.1,.int .i64 p.2.2.2.2.1,.int .i64 p.2.2.2.2.2]],⟨[],0⟩,0⟩
 pol:=⟨[0,1,6,36],[],[],[]⟩
 pe:=[(.normal,⟨[0,1,6],[],[],[]⟩)]
def f123_c12:PD (Int×Int×Bool×Bool×Int×Int) ((List Int)) where
 sk:=⟨[(0,.v (.int .u64)),(1,.v (.int .u64)),(6,.loc 0 0),(7,.v .nils),(41,.v .bool)],[(.cons .bool (.cons (.int .i64) (.cons (.int .i64) .nil)))],[],0,0⟩
 p:=fun u=>(u.1.1,u.1.2.1,u.1.2.2.2.1,u.2.1.1.1,u.2.1.1.2.1,u.2.1.1.2.2.1)
 n:=fun p=>((p.1,(p.2.1,((),(p.2.2.1,())))),(((p.2.2.2.1,(p.2.2.2.2.1,(p.2.2.2.2.2,()))),()),()))
 st:=fun Y p ke=>cond p.2.2.1
  (ask (decide ((List.length ([(wi64 p.2.1)]:List Int)) * 8≤70368744177664)&&decide ((List.length ([(wi64 p.2.1)]:List Int))<9223372036854775808)) (ke (([(wi64 p.2.1)]:List Int))))
  (ke ([]))
 o:=fun Z p e K=>K .normal ⟨[(0,.v (.int .u64 p.1)),(1,.v (.int .u64 p.2.1)),(6,.loc 0 0),(7,.v (.all 0))],[[.bool p.2.2.2.1,.int .i64 p.2.2.2.2.1,.int .i64 p.2.2.2.2.2]],⟨[.cells (.int .i64) e],0⟩,0⟩
 pol:=⟨[0,1,6,7,41],[],[],[]⟩
 pe:=[(.normal,⟨[0,1,6,7],[(7,(.own (.int .i64)))],[],[]⟩)]
def f123_c14:PD (Int×Int×Bool×Bool×Int×Int×(List Int)) ((List Int)) where
 sk:=⟨[(0,.v (.int .u64)),(1,.v (.int .u64)),(6,.loc 0 0),(7,.v (.all 0)),(50,.v .bool)],[(.cons .bool (.cons (.int .i64) (.cons (.int .i64) .nil)))],[.cells (.int .i64)],0,0⟩
 p:=fun u=>(u.1.1,u.1.2.1,u.1.2.2.2.1,u.2.1.1.1,u.2.1.1.2.1,u.2.1.1.2.2.1,u.2.2.1)
 n:=fun p=>((p.1,(p.2.1,((),(p.2.2.1,())))),(((p.2.2.2.1,(p.2.2.2.2.1,(p.2.2.2.2.2.1,()))),()),(p.2.2.2.2.2.2,())))
 st:=fun Y p ke=>cond p.2.2.1
  (ask (decide (((List.length p.2.2.2.2.2.2)+(List.length ([(wi64 ((0:Int)-(wi64 (wu64 (p.1-p.2.1)))))]:List Int))) * 8≤70368744177664)&&decide (((List.length p.2.2.2.2.2.2)+(List.length ([(wi64 ((0:Int)-(wi64 (wu64 (p.1-p.2.1)))))]:List Int)))<9223372036854775808)) (ke ((p.2.2.2.2.2.2++([(wi64 ((0:Int)-(wi64 (wu64 (p.1-p.2.1)))))]:List Int)))))
  (ke (p.2.2.2.2.2.2))
 o:=fun Z p e K=>K .normal ⟨[(0,.v (.int .u64 p.1)),(1,.v (.int .u64 p.2.1)),(6,.loc 0 0),(7,.v (.all 0))],[[.bool p.2.2.2.1,.int .i64 p.2.2.2.2.1,.int .i64 p.2.2.2.2.2.1]],⟨[.cells (.int .i64) e],0⟩,0⟩
 pol:=⟨[0,1,6,7,50],[],[],[]⟩
 pe:=[(.normal,⟨[0,1,6,7],[],[],[]⟩)]
def f123_r15:PD (Int×Int×Bool×Int×Int×(List Int)) (Bool) where
 sk:=⟨[(0,.v (.int .u64)),(1,.v (.int .u64)),(6,.loc 0 0),(7,.v (.all 0))],[(.cons .bool (.cons (.int .i64) (.cons (.int .i64) .nil)))],[.cells (.int .i64)],0,0⟩
 p:=fun u=>(u.1.1,u.1.2.1,u.2.1.1.1,u.2.1.1.2.1,u.2.1.1.2.2.1,u.2.2.1)
 n:=fun p=>((p.1,(p.2.1,((),()))),(((p.2.2.1,(p.2.2.2.1,(p.2.2.2.2.1,()))),()),(p.2.2.2.2.2,())))
 st:=fun Y p ke=>cond (decide ((nt (List.length p.2.2.2.2.2))=(1:Int)))
  (ask (V.inRange 0 (List.length p.2.2.2.2.2)) (cond (decide ((0:Int)≤(gx p.2.2.2.2.2 0 (0:Int))))
  (ask (V.inRange 0 (List.length p.2.2.2.2.2)) (ke ((decide (p.1≤(wu64 ((2147483647:Int)-(wu64 (gx p.2.2.2.2.2 0 (0:Int))))))))))
  (ke (false))))
  (ke (false))
 o:=fun Z p e K=>K .normal ⟨[(0,.v (.int .u64 p.1)),(1,.v (.int .u64 p.2.1)),(6,.loc 0 0),(7,.v (.all 0)),(76,.v (.bool e))],[[.bool p.2.2.1,.int .i64 p.2.2.2.1,.int .i64 p.2.2.2.2.1]],⟨[.cells (.int .i64) p.2.2.2.2.2],0⟩,0⟩
 pol:=⟨[0,1,6,7],[],[],[]⟩
 pe:=[(.normal,⟨[0,1,6,7,76],[],[],[]⟩)]
def f123_c16:PD (Int×Int×Bool×Bool×Int×Int×(List Int)) ((List Int)) where
 sk:=⟨[(0,.v (.int .u64)),(1,.v (.int .u64)),(6,.loc 0 0),(7,.v (.all 0)),(76,.v .bool)],[(.cons .bool (.cons (.int .i64) (.cons (.int .i64) .nil)))],[.cells (.int .i64)],0,0⟩
 p:=fun u=>(u.1.1,u.1.2.1,u.1.2.2.2.1,u.2.1.1.1,u.2.1.1.2.1,u.2.1.1.2.2.1,u.2.2.1)
 n:=fun p=>((p.1,(p.2.1,((),(p.2.2.1,())))),(((p.2.2.2.1,(p.2.2.2.2.1,(p.2.2.2.2.2.1,()))),()),(p.2.2.2.2.2.2,())))
 st:=fun Y p ke=>cond p.2.2.1
  (ask (decide (((List.length p.2.2.2.2.2.2)+(List.length ([0]:List Int))) * 8≤70368744177664)&&decide (((List.length p.2.2.2.2.2.2)+(List.length ([0]:List Int)))<9223372036854775808)) (ke ((p.2.2.2.2.2.2++([0]:List Int)))))
  (ke (p.2.2.2.2.2.2))
 o:=fun Z p e K=>K .normal ⟨[(0,.v (.int .u64 p.1)),(1,.v (.int .u64 p.2.1)),(6,.loc 0 0),(7,.v (.all 0))],[[.bool p.2.2.2.1,.int .i64 p.2.2.2.2.1,.int .i64 p.2.2.2.2.2.1]],⟨[.cells (.int .i64) e],0⟩,0⟩
 pol:=⟨[0,1,6,7,76],[],[],[]⟩
 pe:=[(.normal,⟨[0,1,6,7],[],[],[]⟩)]
def f123_r17:PD (Int×Int×Bool×Int×Int×(List Int)) (Bool) where
 sk:=⟨[(0,.v (.int .u64)),(1,.v (.int .u64)),(6,.loc 0 0),(7,.v (.all 0))],[(.cons .bool (.cons (.int .i64) (.cons (.int .i64) .nil)))],[.cells (.int .i64)],0,0⟩
 p:=fun u=>(u.1.1,u.1.2.1,u.2.1.1.1,u.2.1.1.2.1,u.2.1.1.2.2.1,u.2.2.1)
 n:=fun p=>((p.1,(p.2.1,((),()))),(((p.2.2.1,(p.2.2.2.1,(p.2.2.2.2.1,()))),()),(p.2.2.2.2.2,())))
 st:=fun Y p ke=>cond (decide ((nt (List.length p.2.2.2.2.2))=(1:Int)))
  (ask (V.inRange 0 (List.length p.2.2.2.2.2)) (cond (decide ((gx p.2.2.2.2.2 0 (0:Int))<(0:Int)))
  (ask (V.inRange 0 (List.length p.2.2.2.2.2)) ((f111_m (gx p.2.2.2.2.2 0 (0:Int))).bind fun r1=>
  ke ((decide (p.1≤(wu64 ((2147483648:Int)-r1)))))))
  (ke (false))))
  (ke (false))
 o:=fun Z p e K=>K .normal ⟨[(0,.v (.int .u64 p.1)),(1,.v (.int .u64 p.2.1)),(6,.loc 0 0),(7,.v (.all 0)),(97,.v (.bool e))],[[.bool p.2.2.1,.int .i64 p.2.2.2.1,.int .i64 p.2.2.2.2.1]],⟨[.cells (.int .i64) p.2.2.2.2.2],0⟩,0⟩
 pol:=⟨[0,1,6,7],[],[],[]⟩
 pe:=[(.normal,⟨[0,1,6,7,97],[],[],[]⟩)]
def f123_c18:PD (Int×Int×Bool×Bool×Int×Int×(List Int)) ((List Int)) where
 sk:=⟨[(0,.v (.int .u64)),(1,.v (.int .u64)),(6,.loc 0 0),(7,.v (.all 0)),(97,.v .bool)],[(.cons .bool (.cons (.int .i64) (.cons (.int .i64) .nil)))],[.cells (.int .i64)],0,0⟩
 p:=fun u=>(u.1.1,u.1.2.1,u.1.2.2.2.1,u.2.1.1.1,u.2.1.1.2.1,u.2.1.1.2.2.1,u.2.2.1)
 n:=fun p=>((p.1,(p.2.1,((),(p.2.2.1,())))),(((p.2.2.2.1,(p.2.2.2.2.1,(p.2.2.2.2.2.1,()))),()),(p.2.2.2.2.2.2,())))
 st:=fun Y p ke=>cond p.2.2.1
  (ask (decide (((List.length p.2.2.2.2.2.2)+(List.length ([0]:List Int))) * 8≤70368744177664)&&decide (((List.length p.2.2.2.2.2.2)+(List.length ([0]:List Int)))<9223372036854775808)) (ke ((p.2.2.2.2.2.2++([0]:List Int)))))
  (ke (p.2.2.2.2.2.2))
 o:=fun Z p e K=>K .normal ⟨[(0,.v (.int .u64 p.1)),(1,.v (.int .u64 p.2.1)),(6,.loc 0 0),(7,.v (.all 0))],[[.bool p.2.2.2.1,.int .i64 p.2.2.2.2.1,.int .i64 p.2.2.2.2.2.1]],⟨[.cells (.int .i64) e],0⟩,0⟩
 pol:=⟨[0,1,6,7,97],[],[],[]⟩
 pe:=[(.normal,⟨[0,1,6,7],[],[],[]⟩)]
def f123_c {X:Type} (a:Int×Int×Bool) (K:TCongr→Option X):Option X:=
 cond (decide (a.1=(0:Int)))
 ((f123_r2.m (a.2,false,0,0)).bind fun e1=>
 cond e1
 (K (false,(0,(wi64 ((0:Int)-(wi64 a.2.1))))))
 ((f123_r4.m (a.2,false,0,0)).bind fun e2=>
 cond e2
 (K (false,(0,(wi64 a.2.1))))
 (K (true,(0,0)))))
 (cond (decide (a.1=(0:Int)))
 (none)
 ((f123_r8.m (a.1,(Int.tmod a.2.1 a.1),a.2.2,false,0,0)).bind fun e3=>
 (f123_c9.m (a.1,(Int.tmod a.2.1 a.1),e3,false,0,0)).bind fun e4=>
 (f123_c12.m (a.1,e4,(decide (e4≤(2147483647:Int))),false,0,0)).bind fun e5=>
 (f123_c14.m (a.1,e4,(decide ((wu64 (a.1-e4))≤(2147483648:Int))),false,0,0,e5)).bind fun e6=>
 (f123_r15.m (a.1,e4,false,0,0,e6)).bind fun e7=>
 (f123_c16.m (a.1,e4,e7,false,0,0,e6)).bind fun e8=>
 (f123_r17.m (a.1,e4,false,0,0,e8)).bind fun e9=>
 (f123_c18.m (a.1,e4,e9,false,0,0,e8)).bind fun e10=>
 cond (decide ((nt (List.length e10))=(0:Int)))
 (K (true,(0,0)))
 (cond (decide ((nt (List.length e10))=(1:Int)))
 (ask (V.inRange 0 (List.length e10)) (K (false,(0,(gx e10 0 (0:Int))))))
 (K (false,((wi64 a.1),(wi64 e4)))))))
def f123_m (a:Int×Int×Bool):Option (TCongr):=f123_c a some
def f123_sp:Spec:=f123_s.sp f123_m
noncomputable def f123_e:Env:=⟨fun k=>[1000009,1000012,1000014,1000016,1000018,2000002,2000004,2000008,2000015,2000017].contains k,callsL [(105,f105_sp),(111,f111_sp)],fun X k s K=>if k=2000002 then f123_r2.q X s K else if k=2000004 then f123_r4.q X s K else if k=2000008 then f123_r8.q X s K else if k=1000009 then f123_c9.q X s K else if k=1000012 then f123_c12.q X s K else if k=1000014 then f123_c14.q X s K else if k=2000015 then f123_r15.q X s K else if k=1000016 then f123_c16.q X s K else if k=2000017 then f123_r17.q X s K else if k=1000018 then f123_c18.q X s K else none⟩
noncomputable def f123_r2_c:Code:=subAt [1,0,1,0,0,0] (bodyOf Tryz.f123)
theorem f123_r2_ok {C:V.Callee} (hc:SimCall C f123_e.call):LoopSim f123_e.loop (vc par C true [6] 117) f123_r2_c:=
 piece_form glob_ok (env:=f123_e) (env0:=⟨offJ f123_e.join 2000002,f123_e.call,f123_e.loop⟩) hc rfl (lp_of (by kernel_rfl) lp_nil) f123_r2 (by kernel_rfl) (by intros;simp only [f123_r2,PD.m,n1,n2,n3,n4,n5,n6,n7,n8]) (fun _=>by kernel_rfl) (fun _=>rfl) (fun _ _ _ _=>rfl) (fun _ _ _=>by kernel_rfl)
noncomputable def f123_r4_c:Code:=subAt [1,0,1,0,1,0,0] (bodyOf Tryz.f123)
theorem f123_r4_ok {C:V.Callee} (hc:SimCall C f123_e.call):LoopSim f123_e.loop (vc par C true [6] 117) f123_r4_c:=
 piece_form glob_ok (env:=f123_e) (env0:=⟨offJ f123_e.join 2000004,f123_e.call,f123_e.loop⟩) hc rfl (lp_of (by kernel_rfl) lp_nil) f123_r4 (by kernel_rfl) (by intros;simp only [f123_r4,PD.m,n1,n2,n3,n4,n5,n6,n7,n8]) (fun _=>by kernel_rfl) (fun _=>rfl) (fun _ _ _ _=>rfl) (fun _ _ _=>by kernel_rfl)
noncomputable def f123_r8_c:Code:=subAt [1,1,1,0,0] (bodyOf Tryz.f123)
theorem f123_r8_ok {C:V.Callee} (hc:SimCall C f123_e.call):LoopSim f123_e.loop (vc par C true [6] 117) f123_r8_c:=
 piece_form glob_ok (env:=f123_e) (env0:=⟨offJ f123_e.join 2000008,f123_e.call,f123_e.loop⟩) hc rfl (lp_of (by kernel_rfl) lp_nil) f123_r8 (by kernel_rfl) (by intros;simp only [f123_r8,PD.m,n1,n2,n3,n4,n5,n6,n7,n8]) (fun _=>by kernel_rfl) (fun _=>rfl) (fun _ _ _ _=>rfl) (fun _ _ _=>by kernel_rfl)
noncomputable def f123_c9_c:Code:=subAt [1,1,1,0,1] (bodyOf Tryz.f123)
theorem f123_c9_ok {C:V.Callee} (hc:SimCall C f123_e.call):LoopSim f123_e.loop (vc par C true [6] 117) f123_c9_c:=
 piece_form glob_ok (env:=f123_e) (env0:=⟨offJ f123_e.join 1000009,f123_e.call,f123_e.loop⟩) hc rfl (lp_of (by kernel_rfl) lp_nil) f123_c9 (by kernel_rfl) (by intros;simp only [f123_c9,PD.m,n1,n2,n3,n4,n5,n6,n7,n8]) (fun _=>by kernel_rfl) (fun _=>rfl) (fun _ _ _ _=>rfl) (fun _ _ _=>by kernel_rfl)
noncomputable def f123_c12_c:Code:=subAt [1,1,1,1,1,0,1] (bodyOf Tryz.f123)
theorem f123_c12_ok {C:V.Callee} (hc:SimCall C f123_e.call):LoopSim f123_e.loop (vc par C true [6] 117) f123_c12_c:=
 piece_form glob_ok (env:=f123_e) (env0:=⟨offJ f123_e.join 1000012,f123_e.call,f123_e.loop⟩) hc rfl (lp_of (by kernel_rfl) lp_nil) f123_c12 (by kernel_rfl) (by intros;simp only [f123_c12,PD.m,n1,n2,n3,n4,n5,n6,n7,n8]) (fun _=>by kernel_rfl) (fun _=>rfl) (fun _ _ _ _=>rfl) (fun _ _ _=>by kernel_rfl)
noncomputable def f123_c14_c:Code:=subAt [1,1,1,1,1,1,0,1] (bodyOf Tryz.f123)
theorem f123_c14_ok {C:V.Callee} (hc:SimCall C f123_e.call):LoopSim f123_e.loop (vc par C true [6] 117) f123_c14_c:=
 piece_form glob_ok (env:=f123_e) (env0:=⟨offJ f123_e.join 1000014,f123_e.call,f123_e.loop⟩) hc rfl (lp_of (by kernel_rfl) lp_nil) f123_c14 (by kernel_rfl) (by intros;simp only [f123_c14,PD.m,n1,n2,n3,n4,n5,n6,n7,n8]) (fun _=>by kernel_rfl) (fun _=>rfl) (fun _ _ _ _=>rfl) (fun _ _ _=>by kernel_rfl)
noncomputable def f123_r15_c:Code:=subAt [1,1,1,1,1,1,1,0,0] (bodyOf Tryz.f123)
theorem f123_r15_ok {C:V.Callee} (hc:SimCall C f123_e.call):LoopSim f123_e.loop (vc par C true [6] 117) f123_r15_c:=
 piece_form glob_ok (env:=f123_e) (env0:=⟨offJ f123_e.join 2000015,f123_e.call,f123_e.loop⟩) hc rfl (lp_of (by kernel_rfl) lp_nil) f123_r15 (by kernel_rfl) (by intros;simp only [f123_r15,PD.m,n1,n2,n3,n4,n5,n6,n7,n8]) (fun _=>by kernel_rfl) (fun _=>rfl) (fun _ _ _ _=>rfl) (fun _ _ _=>by kernel_rfl)
noncomputable def f123_c16_c:Code:=subAt [1,1,1,1,1,1,1,0,1] (bodyOf Tryz.f123)
theorem f123_c16_ok {C:V.Callee} (hc:SimCall C f123_e.call):LoopSim f123_e.loop (vc par C true [6] 117) f123_c16_c:=
 piece_form glob_ok (env:=f123_e) (env0:=⟨offJ f123_e.join 1000016,f123_e.call,f123_e.loop⟩) hc rfl (lp_of (by kernel_rfl) lp_nil) f123_c16 (by kernel_rfl) (by intros;simp only [f123_c16,PD.m,n1,n2,n3,n4,n5,n6,n7,n8]) (fun _=>by kernel_rfl) (fun _=>rfl) (fun _ _ _ _=>rfl) (fun _ _ _=>by kernel_rfl)
noncomputable def f123_r17_c:Code:=subAt [1,1,1,1,1,1,1,1,0,0] (bodyOf Tryz.f123)
theorem f123_r17_ok {C:V.Callee} (hc:SimCall C f123_e.call):LoopSim f123_e.loop (vc par C true [6] 117) f123_r17_c:=
 piece_form glob_ok (env:=f123_e) (env0:=⟨offJ f123_e.join 2000017,f123_e.call,f123_e.loop⟩) hc rfl (lp_of (by kernel_rfl) lp_nil) f123_r17 (by kernel_rfl) (by intros;simp only [f123_r17,PD.m,n1,n2,n3,n4,n5,n6,n7,n8]) (fun _=>by kernel_rfl) (fun _=>rfl) (fun _ _ _ _=>rfl) (fun _ _ _=>by kernel_rfl)
noncomputable def f123_c18_c:Code:=subAt [1,1,1,1,1,1,1,1,0,1] (bodyOf Tryz.f123)
theorem f123_c18_ok {C:V.Callee} (hc:SimCall C f123_e.call):LoopSim f123_e.loop (vc par C true [6] 117) f123_c18_c:=
 piece_form glob_ok (env:=f123_e) (env0:=⟨offJ f123_e.join 1000018,f123_e.call,f123_e.loop⟩) hc rfl (lp_of (by kernel_rfl) lp_nil) f123_c18 (by kernel_rfl) (by intros;simp only [f123_c18,PD.m,n1,n2,n3,n4,n5,n6,n7,n8]) (fun _=>by kernel_rfl) (fun _=>rfl) (fun _ _ _ _=>rfl) (fun _ _ _=>by kernel_rfl)
theorem f123_ok:OK (2) 123 (f123_s.sp f123_m):=
 fnOK (d:=1) (env:=f123_e) (callsL_sim (cc f105_ok (cc f111_ok cn))) (fn:=Tryz.f123) (locs:=[6]) (sh:= .any) (fz:=false) (by kernel_rfl) (fun hc=>(lp_of (by kernel_rfl) (lp_cons (f123_r2_ok hc) (lp_cons (f123_r4_ok hc) (lp_cons (f123_r8_ok hc) (lp_cons (f123_c9_ok hc) (lp_cons (f123_c12_ok hc) (lp_cons (f123_c14_ok hc) (lp_cons (f123_r15_ok hc) (lp_cons (f123_c16_ok hc) (lp_cons (f123_r17_ok hc) (lp_cons (f123_c18_ok hc) lp_nil)))))))))))) (mc:=fun X a K=>f123_c a K) (fun _ _ _=>by kernel_rfl) (by intros;simp only [f123_m,f123_c,n1,n2,n3,n4,n5,n6,n7,n8]) (fun _=>rfl)
def f71_s:FS (Int×Int) (TCongr) where
 sk:=⟨(.cons (.int .i64) (.cons (.int .i64) .nil)),[],0⟩
 a:=fun u=>(u.1.1,u.1.2.1)
 n:=fun a=>((a.1,(a.2,())),())
 o:=fun Z a r K=>K (.agg [.bool r.1,.int .i64 r.2.1,.int .i64 r.2.2]) ⟨[],0⟩
def f71_c {X:Type} (a:Int×Int) (K:TCongr→Option X):Option X:=
 (f111_m a.1).bind fun r1=>
 (f111_m a.2).bind fun r2=>
 (f123_m (r1,r2,(decide (a.2<(0:Int))))).bind fun r3=>
 K r3
def f71_m (a:Int×Int):Option (TCongr):=f71_c a some
def f71_sp:Spec:=f71_s.sp f71_m
noncomputable def f71_e:Env:=⟨fun k=>[].contains k,callsL [(111,f111_sp),(123,f123_sp)],fun X k s K=>none⟩
theorem f71_ok:OK (3) 71 (f71_s.sp f71_m):=
 fnOK (d:=2) (env:=f71_e) (callsL_sim (cc f111_ok (cc f123_ok cn))) (fn:=Tryz.f71) (locs:=[4]) (sh:= .any) (fz:=false) (by kernel_rfl) (fun hc=>(lp_of (by kernel_rfl) lp_nil)) (mc:=fun X a K=>f71_c a K) (fun _ _ _=>by kernel_rfl) (by intros;simp only [f71_m,f71_c,n1,n2,n3,n4,n5,n6,n7,n8]) (fun _=>rfl)
def f82_s:FS (TCongr) (Bool) where
 sk:=⟨(.cons (.agg (.cons .bool (.cons (.int .i64) (.cons (.int .i64) .nil)))) .nil),[],0⟩
 a:=fun u=>(u.1.1.1,(u.1.1.2.1,u.1.1.2.2.1))
 n:=fun a=>(((a.1,(a.2.1,(a.2.2,()))),()),())
 o:=fun Z a r K=>K (.bool r) ⟨[],0⟩
def f82_c {X:Type} (a:TCongr) (K:Bool→Option X):Option X:=
 cond a.1
 (cond (decide (a.2.1=(0:Int)))
 (K (decide (a.2.2=(0:Int))))
 (K false))
 (cond (decide ((0:Int)≤a.2.1))
 ((f71_m (a.2.1,a.2.2)).bind fun r1=>
 K ((a.1==r1.1)&&((decide (a.2.1=r1.2.1))&&((decide (a.2.2=r1.2.2))&&true))))
 (K false))
def f82_m (a:TCongr):Option (Bool):=f82_c a some
def f82_sp:Spec:=f82_s.sp f82_m
noncomputable def f82_e:Env:=⟨fun k=>[].contains k,callsL [(71,f71_sp)],fun X k s K=>none⟩
theorem f82_ok:OK (4) 82 (f82_s.sp f82_m):=
 fnOK (d:=3) (env:=f82_e) (callsL_sim (cc f71_ok cn)) (fn:=Tryz.f82) (locs:=[1]) (sh:= .any) (fz:=false) (by kernel_rfl) (fun hc=>(lp_of (by kernel_rfl) lp_nil)) (mc:=fun X a K=>f82_c a K) (fun _ _ _=>by kernel_rfl) (by intros;simp only [f82_m,f82_c,n1,n2,n3,n4,n5,n6,n7,n8]) (fun _=>rfl)
def f44_s:FS ((List TCongr)×Int) (Bool) where
 sk:=⟨(.cons (.lit cCongr) (.cons (.int .i64) .nil)),[],0⟩
 a:=fun u=>(u.1.1,u.1.2.1)
 n:=fun a=>((a.1,(a.2,())),())
 o:=fun Z a r K=>K (.bool r) ⟨[],0⟩
def f44_l4:LD (((List TCongr)×Int)) (Int) ((Unit) ⊕ (Unit)) where
 sk:=⟨[(0,.v (.lit cCongr)),(1,.v (.int .i64)),(5,.v (.int .i64))],[],[],0,0⟩
 p:=fun u=>(u.1.1,u.1.2.1)
 t:=fun u=>u.1.2.2.1
 n:=fun p t=>((p.1,(p.2,(t,()))),((),()))
 st:=fun Y p t ki ke=>cond (decide (t<p.2))
  (ask (V.inRange t (List.length p.1)) (cond (gx p.1 (Int.toNat t) dCongr).1
  (ke (.inl ()))
  (ask (V.inRange t (List.length p.1)) ((f82_m (gx p.1 (Int.toNat t) dCongr)).bind fun r1=>
  cond (!r1)
  (ke (.inl ()))
  (ki ((wi64 (t+(1:Int)))))))))
  (ke (.inr (())))
 o:=fun Z p e K=>Sum.elim (fun e=>K .ret ⟨[(4,.v (.bool false))],[],⟨[],0⟩,0⟩) (fun e=>K (.exit 0) ⟨[],[],⟨[],0⟩,0⟩) e
 pol:=⟨[0,1,5],[],[],[]⟩
 pe:=[(.ret,⟨[4],[],[],[]⟩),(.exit 0,⟨[],[],[],[]⟩)]
def f44_c {X:Type} (a:(List TCongr)×Int) (K:Bool→Option X):Option X:=
 cond (!(decide ((nt (List.length a.1))=a.2)))
 (K false)
 ((loopAll (f44_l4.m a) 0).bind fun e1=>
 Sum.elim (fun e2=>K false)
 (fun e3=>K true) e1)
def f44_m (a:(List TCongr)×Int):Option (Bool):=f44_c a some
def f44_sp:Spec:=f44_s.sp f44_m
noncomputable def f44_e:Env:=⟨fun k=>[].contains k,callsL [(82,f82_sp)],fun X k s K=>if k=4 then f44_l4.q X s K else none⟩
noncomputable def f44_l4_c:Code:=subAt [1,1,0,1,0,0] (bodyOf Tryz.f44)
theorem f44_l4_ok {C:V.Callee} (hc:SimCall C f44_e.call):LoopSim f44_e.loop (vc par C true [] 28) (.loop f44_l4_c):=
 loop_form glob_ok hc (lp_of (by kernel_rfl) lp_nil) f44_l4 (by kernel_rfl) (by intros;simp only [f44_l4,LD.m,n1,n2,n3,n4,n5,n6,n7,n8]) (fun _ _=>by kernel_rfl) (fun _=>rfl) (fun _ _ e _=>by rcases e with e|e<;>rfl) (fun _ _ _=>by kernel_rfl)
theorem f44_ok:OK (5) 44 (f44_s.sp f44_m):=
 fnOK (d:=4) (env:=f44_e) (callsL_sim (cc f82_ok cn)) (fn:=Tryz.f44) (locs:=[]) (sh:= .any) (fz:=false) (by kernel_rfl) (fun hc=>(lp_of (by kernel_rfl) (lp_cons (f44_l4_ok hc) lp_nil))) (mc:=fun X a K=>f44_c a K) (fun _ _ _=>by kernel_rfl) (by intros;simp only [f44_m,f44_c,n1,n2,n3,n4,n5,n6,n7,n8]) (fun _=>rfl)
def f11_s:FS (TGraph×TMods) (Bool) where
 sk:=⟨(.cons (.agg (.cons (.lit cInstr) (.cons (.int .i64) (.cons (.int .i64) (.cons (.int .i64) (.cons (.lit cArray) (.cons (.lit cScalar) (.cons (.lit cArray) (.cons (.lit cItv) .nil))))))))) (.cons (.agg (.cons .bool (.cons (.lit cCongr) (.cons (.lit cCongr) .nil)))) .nil)),[],0⟩
 a:=fun u=>((u.1.1.1,(u.1.1.2.1,(u.1.1.2.2.1,(u.1.1.2.2.2.1,(u.1.1.2.2.2.2.1,(u.1.1.2.2.2.2.2.1,(u.1.1.2.2.2.2.2.2.1,u.1.1.2.2.2.2.2.2.2.1))))))),(u.1.2.1.1,(u.1.2.1.2.1,u.1.2.1.2.2.1)))
 n:=fun a=>(((a.1.1,(a.1.2.1,(a.1.2.2.1,(a.1.2.2.2.1,(a.1.2.2.2.2.1,(a.1.2.2.2.2.2.1,(a.1.2.2.2.2.2.2.1,(a.1.2.2.2.2.2.2.2,())))))))),((a.2.1,(a.2.2.1,(a.2.2.2,()))),())),())
 o:=fun Z a r K=>K (.bool r) ⟨[],0⟩
def f11_c {X:Type} (a:TGraph×TMods) (K:Bool→Option X):Option X:=
 cond (!a.2.1)
 (cond (decide ((nt (List.length a.2.2.1))=(0:Int)))
 (K (decide ((nt (List.length a.2.2.2))=(0:Int))))
 (K false))
 ((f44_m (a.2.2.1,(nt (List.length a.1.2.2.2.2.2.1)))).bind fun r1=>
 cond r1
 ((f44_m (a.2.2.2,(nt (List.length a.1.2.2.2.2.2.2.1)))).bind fun r2=>
 K r2)
 (K false))
def f11_m (a:TGraph×TMods):Option (Bool):=f11_c a some
def f11_sp:Spec:=f11_s.sp f11_m
noncomputable def f11_e:Env:=⟨fun k=>[].contains k,callsL [(44,f44_sp)],fun X k s K=>none⟩
theorem f11_ok:OK (6) 11 (f11_s.sp f11_m):=
 fnOK (d:=5) (env:=f11_e) (callsL_sim (cc f44_ok cn)) (fn:=Tryz.f11) (locs:=[2,3]) (sh:= .any) (fz:=false) (by kernel_rfl) (fun hc=>(lp_of (by kernel_rfl) lp_nil)) (mc:=fun X a K=>f11_c a K) (fun _ _ _=>by kernel_rfl) (by intros;simp only [f11_m,f11_c,n1,n2,n3,n4,n5,n6,n7,n8]) (fun _=>rfl)
def f7_s:FS (TGraph×TMods×TMods×Int×Int) (Bool) where
 sk:=⟨(.cons (.agg (.cons (.lit cInstr) (.cons (.int .i64) (.cons (.int .i64) (.cons (.int .i64) (.cons (.lit cArray) (.cons (.lit cScalar) (.cons (.lit cArray) (.cons (.lit cItv) .nil))))))))) (.cons (.agg (.cons .bool (.cons (.lit cCongr) (.cons (.lit cCongr) .nil)))) (.cons (.agg (.cons .bool (.cons (.lit cCongr) (.cons (.lit cCongr) .nil)))) (.cons (.int .i64) (.cons (.int .i64) .nil))))),[],0⟩
 a:=fun u=>((u.1.1.1,(u.1.1.2.1,(u.1.1.2.2.1,(u.1.1.2.2.2.1,(u.1.1.2.2.2.2.1,(u.1.1.2.2.2.2.2.1,(u.1.1.2.2.2.2.2.2.1,u.1.1.2.2.2.2.2.2.2.1))))))),(u.1.2.1.1,(u.1.2.1.2.1,u.1.2.1.2.2.1)),(u.1.2.2.1.1,(u.1.2.2.1.2.1,u.1.2.2.1.2.2.1)),u.1.2.2.2.1,u.1.2.2.2.2.1)
 n:=fun a=>(((a.1.1,(a.1.2.1,(a.1.2.2.1,(a.1.2.2.2.1,(a.1.2.2.2.2.1,(a.1.2.2.2.2.2.1,(a.1.2.2.2.2.2.2.1,(a.1.2.2.2.2.2.2.2,())))))))),((a.2.1.1,(a.2.1.2.1,(a.2.1.2.2,()))),((a.2.2.1.1,(a.2.2.1.2.1,(a.2.2.1.2.2,()))),(a.2.2.2.1,(a.2.2.2.2,()))))),())
 o:=fun Z a r K=>K (.bool r) ⟨[],0⟩
def f7_l8:LD (TGraph×TMods×TMods) (Int) ((Unit) ⊕ (Unit)) where
 sk:=⟨[(5,.loc 0 0),(6,.loc 1 0),(11,.loc 2 0),(12,.v (.int .i64))],[(.cons (.lit cInstr) (.cons (.int .i64) (.cons (.int .i64) (.cons (.int .i64) (.cons (.lit cArray) (.cons (.lit cScalar) (.cons (.lit cArray) (.cons (.lit cItv) .nil)))))))),(.cons .bool (.cons (.lit cCongr) (.cons (.lit cCongr) .nil))),(.cons .bool (.cons (.lit cCongr) (.cons (.lit cCongr) .nil)))],[],0,0⟩
 p:=fun u=>((u.2.1.1.1,(u.2.1.1.2.1,(u.2.1.1.2.2.1,(u.2.1.1.2.2.2.1,(u.2.1.1.2.2.2.2.1,(u.2.1.1.2.2.2.2.2.1,(u.2.1.1.2.2.2.2.2.2.1,u.2.1.1.2.2.2.2.2.2.2.1))))))),(u.2.1.2.1.1,(u.2.1.2.1.2.1,u.2.1.2.1.2.2.1)),(u.2.1.2.2.1.1,(u.2.1.2.2.1.2.1,u.2.1.2.2.1.2.2.1)))
 t:=fun u=>u.1.1
 n:=fun p t=>((t,()),(((p.1.1,(p.1.2.1,(p.1.2.2.1,(p.1.2.2.2.1,(p.1.2.2.2.2.1,(p.1.2.2.2.2.2.1,(p.1.2.2.2.2.2.2.1,(p.1.2.2.2.2.2.2.2,())))))))),((p.2.1.1,(p.2.1.2.1,(p.2.1.2.2,()))),((p.2.2.1,(p.2.2.2.1,(p.2.2.2.2,()))),()))),()))
 st:=fun Y p t ki ke=>cond (decide (t<p.1.2.2.1))
  ((f13_m (p.1,p.2.1,t)).bind fun r1=>
  (f13_m (p.1,p.2.2,t)).bind fun r2=>
  (f27_m (r1,r2)).bind fun r3=>
  cond (!r3)
  (ke (.inl ()))
  (ki ((wi64 (t+(1:Int))))))
  (ke (.inr (())))
 o:=fun Z p e K=>Sum.elim (fun e=>K .ret ⟨[(10,.v (.bool false))],[],⟨[],0⟩,0⟩) (fun e=>K (.exit 0) ⟨[],[],⟨[],0⟩,0⟩) e
 pol:=⟨[5,6,11,12],[],[],[]⟩
 pe:=[(.ret,⟨[10],[],[],[]⟩),(.exit 0,⟨[],[],[],[]⟩)]
def f7_c {X:Type} (a:TGraph×TMods×TMods×Int×Int) (K:Bool→Option X):Option X:=
 (f10_m a.1).bind fun r1=>
 cond (!r1)
 ((f12_m ()).bind fun r2=>
 K r2)
 ((f11_m (a.1,a.2.1)).bind fun r3=>
 cond (!r3)
 ((f12_m ()).bind fun r4=>
 K r4)
 ((f11_m (a.1,a.2.2.1)).bind fun r5=>
 cond (!r5)
 ((f12_m ()).bind fun r6=>
 K r6)
 (cond (decide ((wu64 (nt (List.length a.1.1)))=(0:Int)))
 (none)
 ((f26_m (a.2.1,a.2.2.1)).bind fun r7=>
 (f25_m (a.2.1,r7)).bind fun r8=>
 cond (!r8)
 (K false)
 ((f25_m (a.2.2.1,r7)).bind fun r9=>
 cond (!r9)
 (K false)
 ((f16_m (a.1,a.2.1,(wi64 (Int.tmod (wu64 a.2.2.2.1) (wu64 (nt (List.length a.1.1))))),a.2.2.2.2)).bind fun r10=>
 (f16_m (a.1,r7,(wi64 (Int.tmod (wu64 a.2.2.2.1) (wu64 (nt (List.length a.1.1))))),a.2.2.2.2)).bind fun r11=>
 (f25_m (r10,r11)).bind fun r12=>
 cond (!r12)
 (K false)
 ((loopAll (f7_l8.m (a.1,a.2.1,r7)) 0).bind fun e13=>
 Sum.elim (fun e14=>K false)
 (fun e15=>(f12_m ()).bind fun r16=>
 K r16) e13)))))))
def f7_m (a:TGraph×TMods×TMods×Int×Int):Option (Bool):=f7_c a some
def f7_sp:Spec:=f7_s.sp f7_m
noncomputable def f7_e:Env:=⟨fun k=>[].contains k,callsL [(10,f10_sp),(12,f12_sp),(11,f11_sp),(26,f26_sp),(25,f25_sp),(16,f16_sp),(13,f13_sp),(27,f27_sp)],fun X k s K=>if k=8 then f7_l8.q X s K else none⟩
noncomputable def f7_l8_c:Code:=subAt [1,1,1,1,1,0,1,0,0] (bodyOf Tryz.f7)
theorem f7_l8_ok {C:V.Callee} (hc:SimCall C f7_e.call):LoopSim f7_e.loop (vc par C true [5,6,7,11] 81) (.loop f7_l8_c):=
 loop_form glob_ok hc (lp_of (by kernel_rfl) lp_nil) f7_l8 (by kernel_rfl) (by intros;simp only [f7_l8,LD.m,n1,n2,n3,n4,n5,n6,n7,n8]) (fun _ _=>by kernel_rfl) (fun _=>rfl) (fun _ _ e _=>by rcases e with e|e<;>rfl) (fun _ _ _=>by kernel_rfl)
theorem f7_ok:OK (166020696663385964549) 7 (f7_s.sp f7_m):=
 fnOK (d:=166020696663385964548) (env:=f7_e) (callsL_sim (cc f10_ok (cc f12_ok (cc f11_ok (cc f26_ok (cc f25_ok (cc f16_ok (cc f13_ok (cc f27_ok cn))))))))) (fn:=Tryz.f7) (locs:=[5,6,7,11]) (sh:= .any) (fz:=false) (by kernel_rfl) (fun hc=>(lp_of (by kernel_rfl) (lp_cons (f7_l8_ok hc) lp_nil))) (mc:=fun X a K=>f7_c a K) (fun _ _ _=>by kernel_rfl) (by intros;simp only [f7_m,f7_c,n1,n2,n3,n4,n5,n6,n7,n8]) (fun _=>rfl)
def f109_s:FS (Int×Int) (TCongr) where
 sk:=⟨(.cons (.int .u64) (.cons (.int .i64) .nil)),[],0⟩
 a:=fun u=>(u.1.1,u.1.2.1)
 n:=fun a=>((a.1,(a.2,())),())
 o:=fun Z a r K=>K (.agg [.bool r.1,.int .i64 r.2.1,.int .i64 r.2.2]) ⟨[],0⟩
def f109_c {X:Type} (a:Int×Int) (K:TCongr→Option X):Option X:=
 (f111_m a.2).bind fun r1=>
 (f123_m (a.1,r1,(decide (a.2<(0:Int))))).bind fun r2=>
 K r2
def f109_m (a:Int×Int):Option (TCongr):=f109_c a some
def f109_sp:Spec:=f109_s.sp f109_m
noncomputable def f109_e:Env:=⟨fun k=>[].contains k,callsL [(111,f111_sp),(123,f123_sp)],fun X k s K=>none⟩
theorem f109_ok:OK (3) 109 (f109_s.sp f109_m):=
 fnOK (d:=2) (env:=f109_e) (callsL_sim (cc f111_ok (cc f123_ok cn))) (fn:=Tryz.f109) (locs:=[4]) (sh:= .any) (fz:=false) (by kernel_rfl) (fun hc=>(lp_of (by kernel_rfl) lp_nil)) (mc:=fun X a K=>f109_c a K) (fun _ _ _=>by kernel_rfl) (by intros;simp only [f109_m,f109_c,n1,n2,n3,n4,n5,n6,n7,n8]) (fun _=>rfl)
def f135_s:FS (TCongr) (TCongr) where
 sk:=⟨(.cons (.agg (.cons .bool (.cons (.int .i64) (.cons (.int .i64) .nil)))) .nil),[],0⟩
 a:=fun u=>(u.1.1.1,(u.1.1.2.1,u.1.1.2.2.1))
 n:=fun a=>(((a.1,(a.2.1,(a.2.2,()))),()),())
 o:=fun Z a r K=>K (.agg [.bool r.1,.int .i64 r.2.1,.int .i64 r.2.2]) ⟨[],0⟩
def f135_c {X:Type} (a:TCongr) (K:TCongr→Option X):Option X:=
 cond a.1
 (K (true,(0,0)))
 ((f111_m a.2.1).bind fun r1=>
 (f109_m (r1,(wi64 ((0:Int)-a.2.2)))).bind fun r2=>
 K r2)
def f135_m (a:TCongr):Option (TCongr):=f135_c a some
def f135_sp:Spec:=f135_s.sp f135_m
noncomputable def f135_e:Env:=⟨fun k=>[].contains k,callsL [(105,f105_sp),(111,f111_sp),(109,f109_sp)],fun X k s K=>none⟩
theorem f135_ok:OK (4) 135 (f135_s.sp f135_m):=
 fnOK (d:=3) (env:=f135_e) (callsL_sim (cc f105_ok (cc f111_ok (cc f109_ok cn)))) (fn:=Tryz.f135) (locs:=[1,2]) (sh:= .any) (fz:=false) (by kernel_rfl) (fun hc=>(lp_of (by kernel_rfl) lp_nil)) (mc:=fun X a K=>f135_c a K) (fun _ _ _=>by kernel_rfl) (by intros;simp only [f135_m,f135_c,n1,n2,n3,n4,n5,n6,n7,n8]) (fun _=>rfl)
def f110_s:FS (Int×Int) (Int) where
 sk:=⟨(.cons (.int .u64) (.cons (.int .u64) .nil)),[],0⟩
 a:=fun u=>(u.1.1,u.1.2.1)
 n:=fun a=>((a.1,(a.2,())),())
 o:=fun Z a r K=>K (.int .u64 r) ⟨[],0⟩
def f110_l1:LD (Unit) (Int×Int) (Int) where
 sk:=⟨[(0,.v (.int .u64)),(1,.v (.int .u64))],[],[],0,0⟩
 p:=fun u=>()
 t:=fun u=>(u.1.1,u.1.2.1)
 n:=fun p t=>((t.1,(t.2,())),((),()))
 st:=fun Y p t ki ke=>cond (!(decide (t.2=(0:Int))))
  (cond (decide (t.2=(0:Int)))
  (none)
  (ki (t.2,(Int.tmod t.1 t.2))))
  (ke (t.1))
 o:=fun Z p e K=>K (.exit 0) ⟨[(0,.v (.int .u64 e))],[],⟨[],0⟩,0⟩
 pol:=⟨[0,1],[],[],[]⟩
 pe:=[(.exit 0,⟨[0],[],[],[]⟩)]
def f110_c {X:Type} (a:Int×Int) (K:Int→Option X):Option X:=
 (loopAll (f110_l1.m ()) (a.1,a.2)).bind fun e1=>
 K e1
def f110_m (a:Int×Int):Option (Int):=f110_c a some
def f110_sp:Spec:=f110_s.sp f110_m
noncomputable def f110_e:Env:=⟨fun k=>[].contains k,callsL [],fun X k s K=>if k=1 then f110_l1.q X s K else none⟩
noncomputable def f110_l1_c:Code:=subAt [1,0,0,0] (bodyOf Tryz.f110)
theorem f110_l1_ok {C:V.Callee} (hc:SimCall C f110_e.call):LoopSim f110_e.loop (vc par C true [] 12) (.loop f110_l1_c):=
 loop_form glob_ok hc (lp_of (by kernel_rfl) lp_nil) f110_l1 (by kernel_rfl) (by intros;simp only [f110_l1,LD.m,n1,n2,n3,n4,n5,n6,n7,n8]) (fun _ _=>by kernel_rfl) (fun _=>rfl) (fun _ _ _ _=>rfl) (fun _ _ _=>by kernel_rfl)
theorem f110_ok:OK (1) 110 (f110_s.sp f110_m):=
 fnOK (d:=0) (env:=f110_e) (callsL_sim cn) (fn:=Tryz.f110) (locs:=[]) (sh:= .any) (fz:=false) (by kernel_rfl) (fun hc=>(lp_of (by kernel_rfl) (lp_cons (f110_l1_ok hc) lp_nil))) (mc:=fun X a K=>f110_c a K) (fun _ _ _=>by kernel_rfl) (by intros;simp only [f110_m,f110_c,n1,n2,n3,n4,n5,n6,n7,n8]) (fun _=>rfl)
def f56_s:FS (TCongr×TCongr) (TCongr) where
 sk:=⟨(.cons (.agg (.cons .bool (.cons (.int .i64) (.cons (.int .i64) .nil)))) (.cons (.agg (.cons .bool (.cons (.int .i64) (.cons (.int .i64) .nil)))) .nil)),[],0⟩
 a:=fun u=>((u.1.1.1,(u.1.1.2.1,u.1.1.2.2.1)),(u.1.2.1.1,(u.1.2.1.2.1,u.1.2.1.2.2.1)))
 n:=fun a=>(((a.1.1,(a.1.2.1,(a.1.2.2,()))),((a.2.1,(a.2.2.1,(a.2.2.2,()))),())),())
 o:=fun Z a r K=>K (.agg [.bool r.1,.int .i64 r.2.1,.int .i64 r.2.2]) ⟨[],0⟩
def f56_c {X:Type} (a:TCongr×TCongr) (K:TCongr→Option X):Option X:=
 cond a.1.1
 (K a.2)
 (cond a.2.1
 (K a.1)
 ((f111_m a.1.2.1).bind fun r1=>
 (f111_m a.2.2.1).bind fun r2=>
 (f110_m (r1,r2)).bind fun r3=>
 (f111_m (wi64 (a.1.2.2-a.2.2.2))).bind fun r4=>
 (f110_m (r3,r4)).bind fun r5=>
 (f109_m (r5,a.1.2.2)).bind fun r6=>
 K r6))
def f56_m (a:TCongr×TCongr):Option (TCongr):=f56_c a some
def f56_sp:Spec:=f56_s.sp f56_m
noncomputable def f56_e:Env:=⟨fun k=>[].contains k,callsL [(111,f111_sp),(110,f110_sp),(109,f109_sp)],fun X k s K=>none⟩
theorem f56_ok:OK (4) 56 (f56_s.sp f56_m):=
 fnOK (d:=3) (env:=f56_e) (callsL_sim (cc f111_ok (cc f110_ok (cc f109_ok cn)))) (fn:=Tryz.f56) (locs:=[2,3,4]) (sh:= .any) (fz:=false) (by kernel_rfl) (fun hc=>(lp_of (by kernel_rfl) lp_nil)) (mc:=fun X a K=>f56_c a K) (fun _ _ _=>by kernel_rfl) (by intros;simp only [f56_m,f56_c,n1,n2,n3,n4,n5,n6,n7,n8]) (fun _=>rfl)
def f136_s:FS (TCongr) (TCongr) where
 sk:=⟨(.cons (.agg (.cons .bool (.cons (.int .i64) (.cons (.int .i64) .nil)))) .nil),[],0⟩
 a:=fun u=>(u.1.1.1,(u.1.1.2.1,u.1.1.2.2.1))
 n:=fun a=>(((a.1,(a.2.1,(a.2.2,()))),()),())
 o:=fun Z a r K=>K (.agg [.bool r.1,.int .i64 r.2.1,.int .i64 r.2.2]) ⟨[],0⟩
def f136_c {X:Type} (a:TCongr) (K:TCongr→Option X):Option X:=
 cond a.1
 (K (true,(0,0)))
 (cond (decide (a.2.1=(0:Int)))
 ((f71_m (0,(if (wi64 ((0:Int)-a.2.2))>a.2.2 then (wi64 ((0:Int)-a.2.2)) else a.2.2))).bind fun r1=>
 K r1)
 ((f135_m a).bind fun r2=>
 (f56_m (a,r2)).bind fun r3=>
 K r3))
def f136_m (a:TCongr):Option (TCongr):=f136_c a some
def f136_sp:Spec:=f136_s.sp f136_m
noncomputable def f136_e:Env:=⟨fun k=>[].contains k,callsL [(105,f105_sp),(71,f71_sp),(135,f135_sp),(56,f56_sp)],fun X k s K=>none⟩
theorem f136_ok:OK (5) 136 (f136_s.sp f136_m):=
 fnOK (d:=4) (env:=f136_e) (callsL_sim (cc f105_ok (cc f71_ok (cc f135_ok (cc f56_ok cn))))) (fn:=Tryz.f136) (locs:=[1,2]) (sh:= .any) (fz:=false) (by kernel_rfl) (fun hc=>(lp_of (by kernel_rfl) lp_nil)) (mc:=fun X a K=>f136_c a K) (fun _ _ _=>by kernel_rfl) (by intros;simp only [f136_m,f136_c,n1,n2,n3,n4,n5,n6,n7,n8]) (fun _=>rfl)
def f137_s:FS (TCongr×TCongr) (TCongr) where
 sk:=⟨(.cons (.agg (.cons .bool (.cons (.int .i64) (.cons (.int .i64) .nil)))) (.cons (.agg (.cons .bool (.cons (.int .i64) (.cons (.int .i64) .nil)))) .nil)),[],0⟩
 a:=fun u=>((u.1.1.1,(u.1.1.2.1,u.1.1.2.2.1)),(u.1.2.1.1,(u.1.2.1.2.1,u.1.2.1.2.2.1)))
 n:=fun a=>(((a.1.1,(a.1.2.1,(a.1.2.2,()))),((a.2.1,(a.2.2.1,(a.2.2.2,()))),())),())
 o:=fun Z a r K=>K (.agg [.bool r.1,.int .i64 r.2.1,.int .i64 r.2.2]) ⟨[],0⟩
def f137_c {X:Type} (a:TCongr×TCongr) (K:TCongr→Option X):Option X:=
 cond a.1.1
 (K (true,(0,0)))
 (cond a.2.1
 (K (true,(0,0)))
 ((f111_m a.1.2.1).bind fun r1=>
 (f111_m a.2.2.1).bind fun r2=>
 (f110_m (r1,r2)).bind fun r3=>
 (f109_m (r3,(wi64 (a.1.2.2+a.2.2.2)))).bind fun r4=>
 K r4))
def f137_m (a:TCongr×TCongr):Option (TCongr):=f137_c a some
def f137_sp:Spec:=f137_s.sp f137_m
noncomputable def f137_e:Env:=⟨fun k=>[].contains k,callsL [(105,f105_sp),(111,f111_sp),(110,f110_sp),(109,f109_sp)],fun X k s K=>none⟩
theorem f137_ok:OK (4) 137 (f137_s.sp f137_m):=
 fnOK (d:=3) (env:=f137_e) (callsL_sim (cc f105_ok (cc f111_ok (cc f110_ok (cc f109_ok cn))))) (fn:=Tryz.f137) (locs:=[2,3,4]) (sh:= .any) (fz:=false) (by kernel_rfl) (fun hc=>(lp_of (by kernel_rfl) lp_nil)) (mc:=fun X a K=>f137_c a K) (fun _ _ _=>by kernel_rfl) (by intros;simp only [f137_m,f137_c,n1,n2,n3,n4,n5,n6,n7,n8]) (fun _=>rfl)
def f138_s:FS (TCongr×TCongr) (TCongr) where
 sk:=⟨(.cons (.agg (.cons .bool (.cons (.int .i64) (.cons (.int .i64) .nil)))) (.cons (.agg (.cons .bool (.cons (.int .i64) (.cons (.int .i64) .nil)))) .nil)),[],0⟩
 a:=fun u=>((u.1.1.1,(u.1.1.2.1,u.1.1.2.2.1)),(u.1.2.1.1,(u.1.2.1.2.1,u.1.2.1.2.2.1)))
 n:=fun a=>(((a.1.1,(a.1.2.1,(a.1.2.2,()))),((a.2.1,(a.2.2.1,(a.2.2.2,()))),())),())
 o:=fun Z a r K=>K (.agg [.bool r.1,.int .i64 r.2.1,.int .i64 r.2.2]) ⟨[],0⟩
def f138_c {X:Type} (a:TCongr×TCongr) (K:TCongr→Option X):Option X:=
 cond a.1.1
 (K (true,(0,0)))
 (cond a.2.1
 (K (true,(0,0)))
 ((f111_m a.1.2.1).bind fun r1=>
 (f111_m a.2.2.1).bind fun r2=>
 (f110_m (r1,r2)).bind fun r3=>
 (f109_m (r3,(wi64 (a.1.2.2-a.2.2.2)))).bind fun r4=>
 K r4))
def f138_m (a:TCongr×TCongr):Option (TCongr):=f138_c a some
def f138_sp:Spec:=f138_s.sp f138_m
noncomputable def f138_e:Env:=⟨fun k=>[].contains k,callsL [(105,f105_sp),(111,f111_sp),(110,f110_sp),(109,f109_sp)],fun X k s K=>none⟩
theorem f138_ok:OK (4) 138 (f138_s.sp f138_m):=
 fnOK (d:=3) (env:=f138_e) (callsL_sim (cc f105_ok (cc f111_ok (cc f110_ok (cc f109_ok cn))))) (fn:=Tryz.f138) (locs:=[2,3,4]) (sh:= .any) (fz:=false) (by kernel_rfl) (fun hc=>(lp_of (by kernel_rfl) lp_nil)) (mc:=fun X a K=>f138_c a K) (fun _ _ _=>by kernel_rfl) (by intros;simp only [f138_m,f138_c,n1,n2,n3,n4,n5,n6,n7,n8]) (fun _=>rfl)
def f139_s:FS (TCongr×TCongr) (TCongr) where
 sk:=⟨(.cons (.agg (.cons .bool (.cons (.int .i64) (.cons (.int .i64) .nil)))) (.cons (.agg (.cons .bool (.cons (.int .i64) (.cons (.int .i64) .nil)))) .nil)),[],0⟩
 a:=fun u=>((u.1.1.1,(u.1.1.2.1,u.1.1.2.2.1)),(u.1.2.1.1,(u.1.2.1.2.1,u.1.2.1.2.2.1)))
 n:=fun a=>(((a.1.1,(a.1.2.1,(a.1.2.2,()))),((a.2.1,(a.2.2.1,(a.2.2.2,()))),())),())
 o:=fun Z a r K=>K (.agg [.bool r.1,.int .i64 r.2.1,.int .i64 r.2.2]) ⟨[],0⟩
def f139_c {X:Type} (a:TCongr×TCongr) (K:TCongr→Option X):Option X:=
 cond a.1.1
 (K (true,(0,0)))
 (cond a.2.1
 (K (true,(0,0)))
 ((f111_m a.1.2.1).bind fun r1=>
 (f111_m a.2.2.1).bind fun r2=>
 (f111_m a.1.2.1).bind fun r3=>
 (f111_m a.2.2.2).bind fun r4=>
 (f111_m a.2.2.1).bind fun r5=>
 (f111_m a.1.2.2).bind fun r6=>
 (f110_m ((wu64 (r3 * r4)),(wu64 (r5 * r6)))).bind fun r7=>
 (f110_m ((wu64 (r1 * r2)),r7)).bind fun r8=>
 (f111_m a.1.2.2).bind fun r9=>
 (f111_m a.2.2.2).bind fun r10=>
 (f123_m (r8,(wu64 (r9 * r10)),(!((decide (a.1.2.2<(0:Int)))==(decide (a.2.2.2<(0:Int))))))).bind fun r11=>
 K r11))
def f139_m (a:TCongr×TCongr):Option (TCongr):=f139_c a some
def f139_sp:Spec:=f139_s.sp f139_m
noncomputable def f139_e:Env:=⟨fun k=>[].contains k,callsL [(105,f105_sp),(111,f111_sp),(110,f110_sp),(123,f123_sp)],fun X k s K=>none⟩
theorem f139_ok:OK (3) 139 (f139_s.sp f139_m):=
 fnOK (d:=2) (env:=f139_e) (callsL_sim (cc f105_ok (cc f111_ok (cc f110_ok (cc f123_ok cn))))) (fn:=Tryz.f139) (locs:=[2,3,4]) (sh:= .any) (fz:=false) (by kernel_rfl) (fun hc=>(lp_of (by kernel_rfl) lp_nil)) (mc:=fun X a K=>f139_c a K) (fun _ _ _=>by kernel_rfl) (by intros;simp only [f139_m,f139_c,n1,n2,n3,n4,n5,n6,n7,n8]) (fun _=>rfl)
def f163_s:FS (Unit) (Unit) where
 sk:=⟨.nil,[],0⟩
 a:=fun u=>()
 n:=fun a=>((),())
 o:=fun Z a r K=>K (.agg [.bool false,.int .i64 1,.int .i64 0]) ⟨[],0⟩
def f163_c {X:Type} (a:Unit) (K:Unit→Option X):Option X:=
 K ()
def f163_m (a:Unit):Option (Unit):=f163_c a some
def f163_sp:Spec:=f163_s.sp f163_m
noncomputable def f163_e:Env:=⟨fun k=>[].contains k,callsL [],fun X k s K=>none⟩
theorem f163_ok:OK (1) 163 (f163_s.sp f163_m):=
 fnOK (d:=0) (env:=f163_e) (callsL_sim cn) (fn:=Tryz.f163) (locs:=[0]) (sh:= .any) (fz:=false) (by kernel_rfl) (fun hc=>(lp_of (by kernel_rfl) lp_nil)) (mc:=fun X a K=>f163_c a K) (fun _ _ _=>by kernel_rfl) (by intros;simp only [f163_m,f163_c,n1,n2,n3,n4,n5,n6,n7,n8]) (fun _=>rfl)
def f140_s:FS (TCongr×TCongr) (TCongr) where
 sk:=⟨(.cons (.agg (.cons .bool (.cons (.int .i64) (.cons (.int .i64) .nil)))) (.cons (.agg (.cons .bool (.cons (.int .i64) (.cons (.int .i64) .nil)))) .nil)),[],0⟩
 a:=fun u=>((u.1.1.1,(u.1.1.2.1,u.1.1.2.2.1)),(u.1.2.1.1,(u.1.2.1.2.1,u.1.2.1.2.2.1)))
 n:=fun a=>(((a.1.1,(a.1.2.1,(a.1.2.2,()))),((a.2.1,(a.2.2.1,(a.2.2.2,()))),())),())
 o:=fun Z a r K=>K (.agg [.bool r.1,.int .i64 r.2.1,.int .i64 r.2.2]) ⟨[],0⟩
def f140_c {X:Type} (a:TCongr×TCongr) (K:TCongr→Option X):Option X:=
 cond a.1.1
 (K (true,(0,0)))
 (cond a.2.1
 (K (true,(0,0)))
 (cond ((a.2.1==false)&&((decide (a.2.2.1=(0:Int)))&&((decide (a.2.2.2=(0:Int)))&&true)))
 (K (true,(0,0)))
 (cond (!(decide (a.2.2.1=(0:Int))))
 (K (false,(1,0)))
 (cond (decide (a.1.2.1=(0:Int)))
 (cond (decide (a.2.2.2=(0:Int)))
 (none)
 (cond (decide (a.2.2.2=(0:Int)))
 (none)
 ((f71_m ((wi64 (Int.tdiv a.1.2.1 a.2.2.2)),(wi64 (Int.tdiv a.1.2.2 a.2.2.2)))).bind fun r1=>
 K r1)))
 (cond (decide (a.2.2.2=(0:Int)))
 (none)
 (cond (decide ((Int.tmod a.1.2.1 a.2.2.2)=(0:Int)))
 (cond (decide (a.2.2.2=(0:Int)))
 (none)
 (cond (decide ((Int.tmod a.1.2.2 a.2.2.2)=(0:Int)))
 (cond (decide (a.2.2.2=(0:Int)))
 (none)
 (cond (decide (a.2.2.2=(0:Int)))
 (none)
 ((f71_m ((wi64 (Int.tdiv a.1.2.1 a.2.2.2)),(wi64 (Int.tdiv a.1.2.2 a.2.2.2)))).bind fun r2=>
 K r2)))
 (K (false,(1,0)))))
 (K (false,(1,0)))))))))
def f140_m (a:TCongr×TCongr):Option (TCongr):=f140_c a some
def f140_sp:Spec:=f140_s.sp f140_m
noncomputable def f140_e:Env:=⟨fun k=>[].contains k,callsL [(105,f105_sp),(163,f163_sp),(71,f71_sp)],fun X k s K=>none⟩
theorem f140_ok:OK (4) 140 (f140_s.sp f140_m):=
 fnOK (d:=3) (env:=f140_e) (callsL_sim (cc f105_ok (cc f163_ok (cc f71_ok cn)))) (fn:=Tryz.f140) (locs:=[2,3,4,5]) (sh:= .any) (fz:=false) (by kernel_rfl) (fun hc=>(lp_of (by kernel_rfl) lp_nil)) (mc:=fun X a K=>f140_c a K) (fun _ _ _=>by kernel_rfl) (by intros;simp only [f140_m,f140_c,n1,n2,n3,n4,n5,n6,n7,n8]) (fun _=>rfl)
def f141_s:FS (TCongr×TCongr) (TCongr) where
 sk:=⟨(.cons (.agg (.cons .bool (.cons (.int .i64) (.cons (.int .i64) .nil)))) (.cons (.agg (.cons .bool (.cons (.int .i64) (.cons (.int .i64) .nil)))) .nil)),[],0⟩
 a:=fun u=>((u.1.1.1,(u.1.1.2.1,u.1.1.2.2.1)),(u.1.2.1.1,(u.1.2.1.2.1,u.1.2.1.2.2.1)))
 n:=fun a=>(((a.1.1,(a.1.2.1,(a.1.2.2,()))),((a.2.1,(a.2.2.1,(a.2.2.2,()))),())),())
 o:=fun Z a r K=>K (.agg [.bool r.1,.int .i64 r.2.1,.int .i64 r.2.2]) ⟨[],0⟩
def f141_c {X:Type} (a:TCongr×TCongr) (K:TCongr→Option X):Option X:=
 cond a.1.1
 (K (true,(0,0)))
 (cond a.2.1
 (K (true,(0,0)))
 (cond ((a.2.1==false)&&((decide (a.2.2.1=(0:Int)))&&((decide (a.2.2.2=(0:Int)))&&true)))
 (K (true,(0,0)))
 (cond (decide (a.1.2.1=(0:Int)))
 (cond (decide (a.2.2.1=(0:Int)))
 (cond (decide (a.2.2.2=(0:Int)))
 (none)
 ((f71_m (0,(Int.tmod a.1.2.2 a.2.2.2))).bind fun r1=>
 K r1))
 ((f111_m a.1.2.1).bind fun r2=>
 (f111_m a.2.2.1).bind fun r3=>
 (f111_m a.2.2.2).bind fun r4=>
 (f110_m (r3,r4)).bind fun r5=>
 (f110_m (r2,r5)).bind fun r6=>
 (f109_m (r6,a.1.2.2)).bind fun r7=>
 K r7))
 ((f111_m a.1.2.1).bind fun r8=>
 (f111_m a.2.2.1).bind fun r9=>
 (f111_m a.2.2.2).bind fun r10=>
 (f110_m (r9,r10)).bind fun r11=>
 (f110_m (r8,r11)).bind fun r12=>
 (f109_m (r12,a.1.2.2)).bind fun r13=>
 K r13))))
def f141_m (a:TCongr×TCongr):Option (TCongr):=f141_c a some
def f141_sp:Spec:=f141_s.sp f141_m
noncomputable def f141_e:Env:=⟨fun k=>[].contains k,callsL [(105,f105_sp),(71,f71_sp),(111,f111_sp),(110,f110_sp),(109,f109_sp)],fun X k s K=>none⟩
theorem f141_ok:OK (4) 141 (f141_s.sp f141_m):=
 fnOK (d:=3) (env:=f141_e) (callsL_sim (cc f105_ok (cc f71_ok (cc f111_ok (cc f110_ok (cc f109_ok cn)))))) (fn:=Tryz.f141) (locs:=[2,3,4,5]) (sh:= .any) (fz:=false) (by kernel_rfl) (fun hc=>(lp_of (by kernel_rfl) lp_nil)) (mc:=fun X a K=>f141_c a K) (fun _ _ _=>by kernel_rfl) (by intros;simp only [f141_m,f141_c,n1,n2,n3,n4,n5,n6,n7,n8]) (fun _=>rfl)
def f95_s:FS (TGraph×TMods×TInstr×(List TCongr)) (TCongr) where
 sk:=⟨(.cons (.agg (.cons (.lit cInstr) (.cons (.int .i64) (.cons (.int .i64) (.cons (.int .i64) (.cons (.lit cArray) (.cons (.lit cScalar) (.cons (.lit cArray) (.cons (.lit cItv) .nil))))))))) (.cons (.agg (.cons .bool (.cons (.lit cCongr) (.cons (.lit cCongr) .nil)))) (.cons (.all 0) (.cons (.agg (.cons (.int .i64) (.cons (.int .i64) (.cons (.int .i64) (.cons (.int .i64) (.cons (.int .i64) (.cons (.int .i64) (.cons (.int .i64) (.cons (.int .i64) .nil))))))))) .nil)))),[.cells cCongr],0⟩
 a:=fun u=>((u.1.1.1,(u.1.1.2.1,(u.1.1.2.2.1,(u.1.1.2.2.2.1,(u.1.1.2.2.2.2.1,(u.1.1.2.2.2.2.2.1,(u.1.1.2.2.2.2.2.2.1,u.1.1.2.2.2.2.2.2.2.1))))))),(u.1.2.1.1,(u.1.2.1.2.1,u.1.2.1.2.2.1)),(u.1.2.2.2.1.1,(u.1.2.2.2.1.2.1,(u.1.2.2.2.1.2.2.1,(u.1.2.2.2.1.2.2.2.1,(u.1.2.2.2.1.2.2.2.2.1,(u.1.2.2.2.1.2.2.2.2.2.1,(u.1.2.2.2.1.2.2.2.2.2.2.1,u.1.2.2.2.1.2.2.2.2.2.2.2.1))))))),u.2.1)
 n:=fun a=>(((a.1.1,(a.1.2.1,(a.1.2.2.1,(a.1.2.2.2.1,(a.1.2.2.2.2.1,(a.1.2.2.2.2.2.1,(a.1.2.2.2.2.2.2.1,(a.1.2.2.2.2.2.2.2,())))))))),((a.2.1.1,(a.2.1.2.1,(a.2.1.2.2,()))),((),((a.2.2.1.1,(a.2.2.1.2.1,(a.2.2.1.2.2.1,(a.2.2.1.2.2.2.1,(a.2.2.1.2.2.2.2.1,(a.2.2.1.2.2.2.2.2.1,(a.2.2.1.2.2.2.2.2.2.1,(a.2.2.1.2.2.2.2.2.2.2,())))))))),())))),(a.2.2.2,()))
 o:=fun Z a r K=>K (.agg [.bool r.1,.int .i64 r.2.1,.int .i64 r.2.2]) ⟨[.cells cCongr a.2.2.2],0⟩
def f95_c {X:Type} (a:TGraph×TMods×TInstr×(List TCongr)) (K:TCongr→Option X):Option X:=
 cond (decide (a.2.2.1.1=(1:Int)))
 ((f71_m (0,a.2.2.1.2.2.2.2.1)).bind fun r1=>
 K r1)
 (cond (decide (a.2.2.1.1=(2:Int)))
 (ask (V.inRange a.2.2.1.2.2.1 (List.length a.2.2.2)) ((f135_m (gx a.2.2.2 (Int.toNat a.2.2.1.2.2.1) dCongr)).bind fun r2=>
 K r2))
 (cond (decide (a.2.2.1.1=(3:Int)))
 (ask (V.inRange a.2.2.1.2.2.1 (List.length a.2.2.2)) ((f136_m (gx a.2.2.2 (Int.toNat a.2.2.1.2.2.1) dCongr)).bind fun r3=>
 K r3))
 (cond (decide (a.2.2.1.1=(4:Int)))
 (ask (V.inRange a.2.2.1.2.2.1 (List.length a.2.2.2)) (ask (V.inRange a.2.2.1.2.2.2.1 (List.length a.2.2.2)) ((f137_m ((gx a.2.2.2 (Int.toNat a.2.2.1.2.2.1) dCongr),(gx a.2.2.2 (Int.toNat a.2.2.1.2.2.2.1) dCongr))).bind fun r4=>
 K r4)))
 (cond (decide (a.2.2.1.1=(5:Int)))
 (ask (V.inRange a.2.2.1.2.2.1 (List.length a.2.2.2)) (ask (V.inRange a.2.2.1.2.2.2.1 (List.length a.2.2.2)) ((f138_m ((gx a.2.2.2 (Int.toNat a.2.2.1.2.2.1) dCongr),(gx a.2.2.2 (Int.toNat a.2.2.1.2.2.2.1) dCongr))).bind fun r5=>
 K r5)))
 (cond (decide (a.2.2.1.1=(6:Int)))
 (ask (V.inRange a.2.2.1.2.2.1 (List.length a.2.2.2)) (ask (V.inRange a.2.2.1.2.2.2.1 (List.length a.2.2.2)) ((f139_m ((gx a.2.2.2 (Int.toNat a.2.2.1.2.2.1) dCongr),(gx a.2.2.2 (Int.toNat a.2.2.1.2.2.2.1) dCongr))).bind fun r6=>
 K r6)))
 (cond (decide (a.2.2.1.1=(7:Int)))
 (ask (V.inRange a.2.2.1.2.2.1 (List.length a.2.2.2)) (ask (V.inRange a.2.2.1.2.2.2.1 (List.length a.2.2.2)) ((f140_m ((gx a.2.2.2 (Int.toNat a.2.2.1.2.2.1) dCongr),(gx a.2.2.2 (Int.toNat a.2.2.1.2.2.2.1) dCongr))).bind fun r7=>
 K r7)))
 (cond (decide (a.2.2.1.1=(8:Int)))
 (ask (V.inRange a.2.2.1.2.2.1 (List.length a.2.2.2)) (ask (V.inRange a.2.2.1.2.2.2.1 (List.length a.2.2.2)) ((f141_m ((gx a.2.2.2 (Int.toNat a.2.2.1.2.2.1) dCongr),(gx a.2.2.2 (Int.toNat a.2.2.1.2.2.2.1) dCongr))).bind fun r8=>
 K r8)))
 (cond (decide (a.2.2.1.1=(11:Int)))
 (ask (V.inRange a.2.2.1.2.2.1 (List.length a.2.1.2.2)) (K (gx a.2.1.2.2 (Int.toNat a.2.2.1.2.2.1) dCongr)))
 (cond (decide (a.2.2.1.1=(12:Int)))
 (ask (V.inRange a.2.2.1.2.2.1 (List.length a.1.2.2.2.2.1)) (cond (decide ((gx a.1.2.2.2.2.1 (Int.toNat a.2.2.1.2.2.1) dArray).2.2.1=(gx a.1.2.2.2.2.1 (Int.toNat a.2.2.1.2.2.1) dArray).2.2.2))
 ((f71_m (0,(gx a.1.2.2.2.2.1 (Int.toNat a.2.2.1.2.2.1) dArray).2.2.1)).bind fun r9=>
 K r9)
 ((f71_m (1,0)).bind fun r10=>
 K r10)))
 (ask (V.inRange a.2.2.1.2.2.1 (List.length a.2.2.2)) (cond (gx a.2.2.2 (Int.toNat a.2.2.1.2.2.1) dCongr).1
 (K (true,(0,0)))
 (ask (V.inRange a.2.2.1.2.2.2.1 (List.length a.2.2.2)) (cond (gx a.2.2.2 (Int.toNat a.2.2.1.2.2.2.1) dCongr).1
 (K (true,(0,0)))
 (ask (V.inRange a.2.2.1.2.2.1 (List.length a.2.2.2)) (ask (V.inRange a.2.2.1.2.2.2.1 (List.length a.2.2.2)) ((f56_m ((gx a.2.2.2 (Int.toNat a.2.2.1.2.2.1) dCongr),(gx a.2.2.2 (Int.toNat a.2.2.1.2.2.2.1) dCongr))).bind fun r11=>
 K r11))))))))))))))))
def f95_m (a:TGraph×TMods×TInstr×(List TCongr)):Option (TCongr):=f95_c a some
def f95_sp:Spec:=f95_s.sp f95_m
noncomputable def f95_e:Env:=⟨fun k=>[].contains k,callsL [(71,f71_sp),(135,f135_sp),(136,f136_sp),(137,f137_sp),(138,f138_sp),(139,f139_sp),(140,f140_sp),(141,f141_sp),(56,f56_sp)],fun X k s K=>none⟩
theorem f95_ok:OK (6) 95 (f95_s.sp f95_m):=
 fnOK (d:=5) (env:=f95_e) (callsL_sim (cc f71_ok (cc f135_ok (cc f136_ok (cc f137_ok (cc f138_ok (cc f139_ok (cc f140_ok (cc f141_ok (cc f56_ok cn)))))))))) (fn:=Tryz.f95) (locs:=[4,5,7,8,9]) (sh:= .any) (fz:=false) (by kernel_rfl) (fun hc=>(lp_of (by kernel_rfl) lp_nil)) (mc:=fun X a K=>f95_c a K) (fun _ _ _=>by kernel_rfl) (by intros;simp only [f95_m,f95_c,n1,n2,n3,n4,n5,n6,n7,n8]) (fun _=>rfl)
def f48_s:FS (TGraph×TMods) ((List TCongr)) where
 sk:=⟨(.cons (.agg (.cons (.lit cInstr) (.cons (.int .i64) (.cons (.int .i64) (.cons (.int .i64) (.cons (.lit cArray) (.cons (.lit cScalar) (.cons (.lit cArray) (.cons (.lit cItv) .nil))))))))) (.cons (.agg (.cons .bool (.cons (.lit cCongr) (.cons (.lit cCongr) .nil)))) .nil)),[],0⟩
 a:=fun u=>((u.1.1.1,(u.1.1.2.1,(u.1.1.2.2.1,(u.1.1.2.2.2.1,(u.1.1.2.2.2.2.1,(u.1.1.2.2.2.2.2.1,(u.1.1.2.2.2.2.2.2.1,u.1.1.2.2.2.2.2.2.2.1))))))),(u.1.2.1.1,(u.1.2.1.2.1,u.1.2.1.2.2.1)))
 n:=fun a=>(((a.1.1,(a.1.2.1,(a.1.2.2.1,(a.1.2.2.2.1,(a.1.2.2.2.2.1,(a.1.2.2.2.2.2.1,(a.1.2.2.2.2.2.2.1,(a.1.2.2.2.2.2.2.2,())))))))),((a.2.1,(a.2.2.1,(a.2.2.2,()))),())),())
 o:=fun Z a r K=>K (.lit cCongr r) ⟨[],0⟩
def f48_l4:LD ((TGraph×TMods)) (Int×(List TCongr)) ((List TCongr)) where
 sk:=⟨[(2,.loc 0 0),(3,.loc 1 0),(5,.v (.all 0)),(6,.v (.int .i64))],[(.cons (.lit cInstr) (.cons (.int .i64) (.cons (.int .i64) (.cons (.int .i64) (.cons (.lit cArray) (.cons (.lit cScalar) (.cons (.lit cArray) (.cons (.lit cItv) .nil)))))))),(.cons .bool (.cons (.lit cCongr) (.cons (.lit cCongr) .nil)))],[.cells cCongr],0,0⟩
 p:=fun u=>((u.2.1.1.1,(u.2.1.1.2.1,(u.2.1.1.2.2.1,(u.2.1.1.2.2.2.1,(u.2.1.1.2.2.2.2.1,(u.2.1.1.2.2.2.2.2.1,(u.2.1.1.2.2.2.2.2.2.1,u.2.1.1.2.2.2.2.2.2.2.1))))))),(u.2.1.2.1.1,(u.2.1.2.1.2.1,u.2.1.2.1.2.2.1)))
 t:=fun u=>(u.1.2.1,u.2.2.1)
 n:=fun p t=>(((),(t.1,())),(((p.1.1,(p.1.2.1,(p.1.2.2.1,(p.1.2.2.2.1,(p.1.2.2.2.2.1,(p.1.2.2.2.2.2.1,(p.1.2.2.2.2.2.2.1,(p.1.2.2.2.2.2.2.2,())))))))),((p.2.1,(p.2.2.1,(p.2.2.2,()))),())),(t.2,())))
 st:=fun Y p t ki ke=>cond (decide (t.1<(nt (List.length p.1.1))))
  (ask (V.inRange t.1 (List.length p.1.1)) (cond (decide ((1:Int)≤(gx p.1.1 (Int.toNat t.1) dInstr).1))
  (cond (decide ((gx p.1.1 (Int.toNat t.1) dInstr).1≤(12:Int)))
  ((f95_m (p.1,p.2,(gx p.1.1 (Int.toNat t.1) dInstr),t.2)).bind fun r1=>
  ask (V.inRange (gx p.1.1 (Int.toNat t.1) dInstr).2.1 (List.length t.2)) (ki ((wi64 (t.1+(1:Int))),(List.set t.2 (Int.toNat (gx p.1.1 (Int.toNat t.1) dInstr).2.1) r1))))
  (ki ((wi64 (t.1+(1:Int))),t.2)))
  (ki ((wi64 (t.1+(1:Int))),t.2))))
  (ke (t.2))
 o:=fun Z p e K=>K (.exit 0) ⟨[(5,.v (.all 0))],[],⟨[.cells cCongr e],0⟩,0⟩
 pol:=⟨[2,3,5,6],[],[],[]⟩
 pe:=[(.exit 0,⟨[5],[],[],[]⟩)]
def f48_c {X:Type} (a:TGraph×TMods) (K:(List TCongr)→Option X):Option X:=
 ask (decide (0≤a.1.2.2.1)&&decide (a.1.2.2.1≤a.1.2.2.1)&&decide (24 * a.1.2.2.1≤70368744177664)&&decide (a.1.2.2.1<9223372036854775808)) ((loopAll (f48_l4.m a) (0,(cpyL 0 (min (List.length a.2.2.1) (List.length (List.replicate (Int.toNat a.1.2.2.1) ((false,(0,0)):TCongr)))) a.2.2.1 (List.replicate (Int.toNat a.1.2.2.1) ((false,(0,0)):TCongr))))).bind fun e1=>
 K e1)
def f48_m (a:TGraph×TMods):Option ((List TCongr)):=f48_c a some
def f48_sp:Spec:=f48_s.sp f48_m
noncomputable def f48_e:Env:=⟨fun k=>[].contains k,callsL [(95,f95_sp)],fun X k s K=>if k=4 then f48_l4.q X s K else none⟩
noncomputable def f48_l4_c:Code:=subAt [1,1,1,0,1,0,0] (bodyOf Tryz.f48)
theorem f48_l4_ok {C:V.Callee} (hc:SimCall C f48_e.call):LoopSim f48_e.loop (vc par C true [2,3,7] 45) (.loop f48_l4_c):=
 loop_form glob_ok hc (lp_of (by kernel_rfl) lp_nil) f48_l4 (by kernel_rfl) (by intros;simp only [f48_l4,LD.m,n1,n2,n3,n4,n5,n6,n7,n8]) (fun _ _=>by kernel_rfl) (fun _=>rfl) (fun _ _ _ _=>rfl) (fun _ _ _=>by kernel_rfl)
theorem f48_ok:OK (7) 48 (f48_s.sp f48_m):=
 fnOK (d:=6) (env:=f48_e) (callsL_sim (cc f95_ok cn)) (fn:=Tryz.f48) (locs:=[2,3,7]) (sh:=(.lit cCongr)) (fz:=true) (by kernel_rfl) (fun hc=>(lp_of (by kernel_rfl) (lp_cons (f48_l4_ok hc) lp_nil))) (mc:=fun X a K=>f48_c a K) (fun _ _ _=>by kernel_rfl) (by intros;simp only [f48_m,f48_c,n1,n2,n3,n4,n5,n6,n7,n8]) (fun _=>rfl)
def f14_s:FS (TGraph×TMods×Int) (TCongr) where
 sk:=⟨(.cons (.agg (.cons (.lit cInstr) (.cons (.int .i64) (.cons (.int .i64) (.cons (.int .i64) (.cons (.lit cArray) (.cons (.lit cScalar) (.cons (.lit cArray) (.cons (.lit cItv) .nil))))))))) (.cons (.agg (.cons .bool (.cons (.lit cCongr) (.cons (.lit cCongr) .nil)))) (.cons (.int .i64) .nil))),[],0⟩
 a:=fun u=>((u.1.1.1,(u.1.1.2.1,(u.1.1.2.2.1,(u.1.1.2.2.2.1,(u.1.1.2.2.2.2.1,(u.1.1.2.2.2.2.2.1,(u.1.1.2.2.2.2.2.2.1,u.1.1.2.2.2.2.2.2.2.1))))))),(u.1.2.1.1,(u.1.2.1.2.1,u.1.2.1.2.2.1)),u.1.2.2.1)
 n:=fun a=>(((a.1.1,(a.1.2.1,(a.1.2.2.1,(a.1.2.2.2.1,(a.1.2.2.2.2.1,(a.1.2.2.2.2.2.1,(a.1.2.2.2.2.2.2.1,(a.1.2.2.2.2.2.2.2,())))))))),((a.2.1.1,(a.2.1.2.1,(a.2.1.2.2,()))),(a.2.2,()))),())
 o:=fun Z a r K=>K (.agg [.bool r.1,.int .i64 r.2.1,.int .i64 r.2.2]) ⟨[],0⟩
def f14_c {X:Type} (a:TGraph×TMods×Int) (K:TCongr→Option X):Option X:=
 cond (!a.2.1.1)
 (K (true,(0,0)))
 ((f48_m (a.1,a.2.1)).bind fun r1=>
 ask (V.inRange a.2.2 (List.length r1)) (K (gx r1 (Int.toNat a.2.2) dCongr)))
def f14_m (a:TGraph×TMods×Int):Option (TCongr):=f14_c a some
def f14_sp:Spec:=f14_s.sp f14_m
noncomputable def f14_e:Env:=⟨fun k=>[].contains k,callsL [(48,f48_sp)],fun X k s K=>none⟩
theorem f14_ok:OK (8) 14 (f14_s.sp f14_m):=
 fnOK (d:=7) (env:=f14_e) (callsL_sim (cc f48_ok cn)) (fn:=Tryz.f14) (locs:=[3,4,6]) (sh:= .any) (fz:=false) (by kernel_rfl) (fun hc=>(lp_of (by kernel_rfl) lp_nil)) (mc:=fun X a K=>f14_c a K) (fun _ _ _=>by kernel_rfl) (by intros;simp only [f14_m,f14_c,n1,n2,n3,n4,n5,n6,n7,n8]) (fun _=>rfl)
end
end Go.U
end

