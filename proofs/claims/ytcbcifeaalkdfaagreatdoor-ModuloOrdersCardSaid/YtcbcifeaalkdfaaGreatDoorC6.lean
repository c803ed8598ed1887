/- The functions of the program as Lean functions, and that the evaluator says so. -/
import Derived.Test.YtcbcifeaalkdfaaGreatDoorC5
set_option linter.unusedVariables false
set_option linter.unusedSimpArgs false
set_option linter.unusedSectionVars false
section
set_option maxRecDepth 100000
namespace Go.U
open Go Go.Proofs
noncomputable section
def f111_s:FS (Int) (Int) where
 sk:=⟨(.cons (.int .i64) .nil),[],0⟩
 a:=fun u=>u.1.1
 n:=fun a=>((a,()),())
 o:=fun Z a r K=>K (.int .u64 r) ⟨[],0⟩
def f111_c {X:Type} (a:Int) (K:Int→Option X):Option X:=
 cond (decide (a<(0:Int)))
 (K (wu64 ((wu64 (wi64 ((0:Int)-(wi64 (a+(1:Int))))))+(1:Int))))
 (K (wu64 a))
def f111_m (a:Int):Option (Int):=f111_c a some
def f111_sp:Spec:=f111_s.sp f111_m
noncomputable def f111_e:Env:=⟨fun k=>[].contains k,callsL [],fun X k s K=>none⟩
theorem f111_ok:OK (1) 111 (f111_s.sp f111_m):=
 fnOK (d:=0) (env:=f111_e) (callsL_sim cn) (fn:=Tryz.f111) (locs:=[]) (sh:= .any) (fz:=false) (by kernel_rfl) (fun hc=>(lp_of (by kernel_rfl) lp_nil)) (mc:=fun X a K=>f111_c a K) (fun _ _ _=>by kernel_rfl) (by intros;simp only [f111_m,f111_c,n1,n2,n3,n4,n5,n6,n7,n8]) (fun _=>rfl)
def f105_s:FS (Unit) (Unit) where
 sk:=⟨.nil,[],0⟩
 a:=fun u=>()
 n:=fun a=>((),())
 o:=fun Z a r K=>K (.agg [.bool true,.int .i64 0,.int .i64 0]) ⟨[],0⟩
def f105_c {X:Type} (a:Unit) (K:Unit→Option X):Option X:=
 K ()
def f105_m (a:Unit):Option (Unit):=f105_c a some
def f105_sp:Spec:=f105_s.sp f105_m
noncomputable def f105_e:Env:=⟨fun k=>[].contains k,callsL [],fun X k s K=>none⟩
theorem f105_ok:OK (1) 105 (f105_s.sp f105_m):=
 fnOK (d:=0) (env:=f105_e) (callsL_sim cn) (fn:=Tryz.f105) (locs:=[0]) (sh:= .any) (fz:=false) (by kernel_rfl) (fun hc=>(lp_of (by kernel_rfl) lp_nil)) (mc:=fun X a K=>f105_c a K) (fun _ _ _=>by kernel_rfl) (by intros;simp only [f105_m,f105_c,n1,n2,n3,n4,n5,n6,n7,n8]) (fun _=>rfl)
def f123_s:FS (Int×Int×Bool) (TCongr) where
 sk:=⟨(.cons (.int .u64) (.cons (.int .u64) (.cons .bool .nil))),[],0⟩
 a:=fun u=>(u.1.1,u.1.2.1,u.1.2.2.1)
 n:=fun a=>((a.1,(a.2.1,(a.2.2,()))),())
 o:=fun Z a r K=>K (.agg [.bool r.1,.int .i64 r.2.1,.int .i64 r.2.2]) ⟨[],0⟩
def f123_r2:PD ((Int×Bool)×Bool×Int×Int) (Bool) where
 sk:=⟨[(1,.v (.int .u64)),(2,.v .bool),(6,.loc 0 0)],[(.cons .bool (.cons (.int .i64) (.cons (.int .i64) .nil)))],[],0,0⟩
 p:=fun u=>((u.1.1,u.1.2.1),u.2.1.1.1,u.2.1.1.2.1,u.2.1.1.2.2.1)
 n:=fun p=>((p.1.1,(p.1.2,())),(((p.2.1,(p.2.2.1,(p.2.2.2,()))),()),()))
 st:=fun Y p ke=>cond p.1.2
  (ke ((decide (p.1.1≤(2147483648:Int)))))
  (ke (false))
 o:=fun Z p e K=>K .normal ⟨[(1,.v (.int .u64 p.1.1)),(2,.v (.bool p.1.2)),(6,.loc 0 0),(14,.v (.bool e))],[[.bool p.2.1,.int .i64 p.2.2.1,.int .i64 p.2.2.2]],⟨[],0⟩,0⟩
 pol:=⟨[1,2,6],[],[],[]⟩
 pe:=[(.normal,⟨[1,2,6,14],[],[],[]⟩)]
def f123_r4:PD ((Int×Bool)×Bool×Int×Int) (Bool) where
 sk:=⟨[(1,.v (.int .u64)),(2,.v .bool),(6,.loc 0 0)],[(.cons .bool (.cons (.int .i64) (.cons (.int .i64) .nil)))],[],0,0⟩
 p:=fun u=>((u.1.1,u.1.2.1),u.2.1.1.1,u.2.1.1.2.1,u.2.1.1.2.2.1)
 n:=fun p=>((p.1.1,(p.1.2,())),(((p.2.1,(p.2.2.1,(p.2.2.2,()))),()),()))
 st:=fun Y p ke=>cond (!p.1.2)
  (ke ((decide (p.1.1≤(2147483647:Int)))))
  (ke (false))
 o:=fun Z p e K=>K .normal ⟨[(1,.v (.int .u64 p.1.1)),(6,.loc 0 0),(24,.v (.bool e))],[[.bool p.2.1,.int .i64 p.2.2.1,.int .i64 p.2.2.2]],⟨[],0⟩,0⟩
 pol:=⟨[1,2,6],[],[],[]⟩
 pe:=[(.normal,⟨[1,6,24],[],[],[]⟩)]
def f123_r8:PD (Int×Int×Bool×Bool×Int×Int) (Bool) where
 sk:=⟨[(0,.v (.int .u64)),(1,.v (.int .u64)),(2,.v .bool),(6,.loc 0 0)],[(.cons .bool (.cons (.int .i64) (.cons (.int .i64) .nil)))],[],0,0⟩
 p:=fun u=>(u.1.1,u.1.2.1,u.1.2.2.1,u.2.1.1.1,u.2.1.1.2.1,u.2.1.1.2.2.1)
 n:=fun p=>((p.1,(p.2.1,(p.2.2.1,()))),(((p.2.2.2.1,(p.2.2.2.2.1,(p.2.2.2.2.2,()))),()),()))
 st:=fun Y p ke=>cond p.2.2.1
  (ke ((!(decide (p.2.1=(0:Int))))))
  (ke (false))
 o:=fun Z p e K=>K .normal ⟨[(0,.v (.int .u64 p.1)),(1,.v (.int .u64 p.2.1)),(6,.loc 0 0),(36,.v (.bool e))],[[.bool p.2.2.2.1,.int .i64 p.2.2.2.2.1,.int .i64 p.2.2.2.2.2]],⟨[],0⟩,0⟩
 pol:=⟨[0,1,2,6],[],[],[]⟩
 pe:=[(.normal,⟨[0,1,6,36],[],[],[]⟩)]
def f123_c9:PD (Int×Int×Bool×Bool×Int×Int) (Int) where
 sk:=⟨[(0,.v (.int .u64)),(1,.v (.int .u64)),(6,.loc 0 0),(36,.v .bool)],[(.cons .bool (.cons (.int .i64) (.cons (.int .i64) .nil)))],[],0,0⟩
 p:=fun u=>(u.1.1,u.1.2.1,u.1.2.2.1,u.2.1.1.1,u.2.1.1.2.1,u.2.1.1.2.2.1)
 n:=fun p=>((p.1,(p.2.1,(p.2.2.1,()))),(((p.2.2.2.1,(p.2.2.2.2.1,(p.2.2.2.2.2,()))),()),()))
 st:=fun Y p ke=>cond p.2.2.1
  (ke ((wu64 (p.1-p.2.1))))
  (ke (p.2.1))
 o:=fun Z p e K=>K .normal ⟨[(0,.v (.int .u64 p.1)),(1,.v (.int .u64 e)),(6,.loc 0 0)],[[.bool p.2.2.2.1,.int .i64 p.2.2.2.2.1,.int .i64 p.2.2.2.2.2]],⟨[],0⟩,0⟩
 pol:=⟨[0,1,6,36],[],[],[]⟩
 pe:=[(.normal,⟨[0,1,6],[],[],[]⟩)]
def f123_c12:PD (Int×Int×Bool×Bool×Int×Int) ((List Int)) where
 sk:=⟨[(0,.v (.int .u64)),(1,.v (.int .u64)),(6,.loc 0 0),(7,.v .nils),(41,.v .bool)],[(.cons .bool (.cons (.int .i64) (.cons (.int .i64) .nil)))],[],0,0⟩
 p:=fun u=>(u.1.1,u.1.2.1,u.1.2.2.2.1,u.2.1.1.1,u.2.1.1.2.1,u.2.1.1.2.2.1)
 n:=fun p=>((p.1,(p.2.1,((),(p.2.2.1,())))),(((p.2.2.2.1,(p.2.2.2.2.1,(p.2.2.2.2.2,()))),()),()))
 st:=fun Y p ke=>cond p.2.2.1
  (ask (decide ((List.length ([(wi64 p.2.1)]:List Int)) * 8≤70368744177664)&&decide ((List.length ([(wi64 p.2.1)]:List Int))<9223372036854775808)) (ke (([(wi64 p.2.1)]:List Int))))
  (ke ([]))
 o:=fun Z p e K=>K .normal ⟨[(0,.v (.int .u64 p.1)),(1,.v (.int .u64 p.2.1)),(6,.loc 0 0),(7,.v (.all 0))],[[.bool p.2.2.2.1,.int .i64 p.2.2.2.2.1,.int .i64 p.2.2.2.2.2]],⟨[.cells (.int .i64) e],0⟩,0⟩
 pol:=⟨[0,1,6,7,41],[],[],[]⟩
 pe:=[(.normal,⟨[0,1,6,7],[(7,(.own (.int .i64)))],[],[]⟩)]
def f123_c14:PD (Int×Int×Bool×Bool×Int×Int×(List Int)) ((List Int)) where
 sk:=⟨[(0,.v (.int .u64)),(1,.v (.int .u64)),(6,.loc 0 0),(7,.v (.all 0)),(50,.v .bool)],[(.cons .bool (.cons (.int .i64) (.cons (.int .i64) .nil)))],[.cells (.int .i64)],0,0⟩
 p:=fun u=>(u.1.1,u.1.2.1,u.1.2.2.2.1,u.2.1.1.1,u.2.1.1.2.1,u.2.1.1.2.2.1,u.2.2.1)
 n:=fun p=>((p.1,(p.2.1,((),(p.2.2.1,())))),(((p.2.2.2.1,(p.2.2.2.2.1,(p.2.2.2.2.2.1,()))),()),(p.2.2.2.2.2.2,())))
 st:=fun Y p ke=>cond p.2.2.1
  (ask (decide (((List.length p.2.2.2.2.2.2)+(List.length ([(wi64 ((0:Int)-(wi64 (wu64 (p.1-p.2.1)))))]:List Int))) * 8≤70368744177664)&&decide (((List.length p.2.2.2.2.2.2)+(List.length ([(wi64 ((0:Int)-(wi64 (wu64 (p.1-p.2.1)))))]:List Int)))<9223372036854775808)) (ke ((p.2.2.2.2.2.2++([(wi64 ((0:Int)-(wi64 (wu64 (p.1-p.2.1)))))]:List Int)))))
  (ke (p.2.2.2.2.2.2))
 o:=fun Z p e K=>K .normal ⟨[(0,.v (.int .u64 p.1)),(1,.v (.int .u64 p.2.1)),(6,.loc 0 0),(7,.v (.all 0))],[[.bool p.2.2.2.1,.int .i64 p.2.2.2.2.1,.int .i64 p.2.2.2.2.2.1]],⟨[.cells (.int .i64) e],0⟩,0⟩
 pol:=⟨[0,1,6,7,50],[],[],[]⟩
 pe:=[(.normal,⟨[0,1,6,7],[],[],[]⟩)]
def f123_r15:PD (Int×Int×Bool×Int×Int×(List Int)) (Bool) where
 sk:=⟨[(0,.v (.int .u64)),(1,.v (.int .u64)),(6,.loc 0 0),(7,.v (.all 0))],[(.cons .bool (.cons (.int .i64) (.cons (.int .i64) .nil)))],[.cells (.int .i64)],0,0⟩
 p:=fun u=>(u.1.1,u.1.2.1,u.2.1.1.1,u.2.1.1.2.1,u.2.1.1.2.2.1,u.2.2.1)
 n:=fun p=>((p.1,(p.2.1,((),()))),(((p.2.2.1,(p.2.2.2.1,(p.2.2.2.2.1,()))),()),(p.2.2.2.2.2,())))
 st:=fun Y p ke=>cond (decide ((nt (List.length p.2.2.2.2.2))=(1:Int)))
  (ask (V.inRange 0 (List.length p.2.2.2.2.2)) (cond (decide ((0:Int)≤(gx p.2.2.2.2.2 0 (0:Int))))
  (ask (V.inRange 0 (List.length p.2.2.2.2.2)) (ke ((decide (p.1≤(wu64 ((2147483647:Int)-(wu64 (gx p.2.2.2.2.2 0 (0:Int))))))))))
  (ke (false))))
  (ke (false))
 o:=fun Z p e K=>K .normal ⟨[(0,.v (.int .u64 p.1)),(1,.v (.int .u64 p.2.1)),(6,.loc 0 0),(7,.v (.all 0)),(76,.v (.bool e))],[[.bool p.2.2.1,.int .i64 p.2.2.2.1,.int .i64 p.2.2.2.2.1]],⟨[.cells (.int .i64) p.2.2.2.2.2],0⟩,0⟩
 pol:=⟨[0,1,6,7],[],[],[]⟩
 pe:=[(.normal,⟨[0,1,6,7,76],[],[],[]⟩)]
def f123_c16:PD (Int×Int×Bool×Bool×Int×Int×(List Int)) ((List Int)) where
 sk:=⟨[(0,.v (.int .u64)),(1,.v (.int .u64)),(6,.loc 0 0),(7,.v (.all 0)),(76,.v .bool)],[(.cons .bool (.cons (.int .i64) (.cons (.int .i64) .nil)))],[.cells (.int .i64)],0,0⟩
 p:=fun u=>(u.1.1,u.1.2.1,u.1.2.2.2.1,u.2.1.1.1,u.2.1.1.2.1,u.2.1.1.2.2.1,u.2.2.1)
 n:=fun p=>((p.1,(p.2.1,((),(p.2.2.1,())))),(((p.2.2.2.1,(p.2.2.2.2.1,(p.2.2.2.2.2.1,()))),()),(p.2.2.2.2.2.2,())))
 st:=fun Y p ke=>cond p.2.2.1
  (ask (decide (((List.length p.2.2.2.2.2.2)+(List.length ([0]:List Int))) * 8≤70368744177664)&&decide (((List.length p.2.2.2.2.2.2)+(List.length ([0]:List Int)))<9223372036854775808)) (ke ((p.2.2.2.2.2.2++([0]:List Int)))))
  (ke (p.2.2.2.2.2.2))
 o:=fun Z p e K=>K .normal ⟨[(0,.v (.int .u64 p.1)),(1,.v (.int .u64 p.2.1)),(6,.loc 0 0),(7,.v (.all 0))],[[.bool p.2.2.2.1,.int .i64 p.2.2.2.2.1,.int .i64 p.2.2.2.2.2.1]],⟨[.cells (.int .i64) e],0⟩,0⟩
 pol:=⟨[0,1,6,7,76],[],[],[]⟩
 pe:=[(.normal,⟨[0,1,6,7],[],[],[]⟩)]
def f123_r17:PD (Int×Int×Bool×Int×Int×(List Int)) (Bool) where
 sk:=⟨[(0,.v (.int .u64)),(1,.v (.int .u64)),(6,.loc 0 0),(7,.v (.all 0))],[(.cons .bool (.cons (.int .i64) (.cons (.int .i64) .nil)))],[.cells (.int .i64)],0,0⟩
 p:=fun u=>(u.1.1,u.1.2.1,u.2.1.1.1,u.2.1.1.2.1,u.2.1.1.2.2.1,u.2.2.1)
 n:=fun p=>((p.1,(p.2.1,((),()))),(((p.2.2.1,(p.2.2.2.1,(p.2.2.2.2.1,()))),()),(p.2.2.2.2.2,())))
 st:=fun Y p ke=>cond (decide ((nt (List.length p.2.2.2.2.2))=(1:Int)))
  (ask (V.inRange 0 (List.length p.2.2.2.2.2)) (cond (decide ((gx p.2.2.2.2.2 0 (0:Int))<(0:Int)))
  (ask (V.inRange 0 (List.length p.2.2.2.2.2)) ((f111_m (gx p.2.2.2.2.2 0 (0:Int))).bind fun r1=>
  ke ((decide (p.1≤(wu64 ((2147483648:Int)-r1)))))))
  (ke (false))))
  (ke (false))
 o:=fun Z p e K=>K .normal ⟨[(0,.v (.int .u64 p.1)),(1,.v (.int .u64 p.2.1)),(6,.loc 0 0),(7,.v (.all 0)),(97,.v (.bool e))],[[.bool p.2.2.1,.int .i64 p.2.2.2.1,.int .i64 p.2.2.2.2.1]],⟨[.cells (.int .i64) p.2.2.2.2.2],0⟩,0⟩
 pol:=⟨[0,1,6,7],[],[],[]⟩
 pe:=[(.normal,⟨[0,1,6,7,97],[],[],[]⟩)]
def f123_c18:PD (Int×Int×Bool×Bool×Int×Int×(List Int)) ((List Int)) where
 sk:=⟨[(0,.v (.int .u64)),(1,.v (.int .u64)),(6,.loc 0 0),(7,.v (.all 0)),(97,.v .bool)],[(.cons .bool (.cons (.int .i64) (.cons (.int .i64) .nil)))],[.cells (.int .i64)],0,0⟩
 p:=fun u=>(u.1.1,u.1.2.1,u.1.2.2.2.1,u.2.1.1.1,u.2.1.1.2.1,u.2.1.1.2.2.1,u.2.2.1)
 n:=fun p=>((p.1,(p.2.1,((),(p.2.2.1,())))),(((p.2.2.2.1,(p.2.2.2.2.1,(p.2.2.2.2.2.1,()))),()),(p.2.2.2.2.2.2,())))
 st:=fun Y p ke=>cond p.2.2.1
  (ask (decide (((List.length p.2.2.2.2.2.2)+(List.length ([0]:List Int))) * 8≤70368744177664)&&decide (((List.length p.2.2.2.2.2.2)+(List.length ([0]:List Int)))<9223372036854775808)) (ke ((p.2.2.2.2.2.2++([0]:List Int)))))
  (ke (p.2.2.2.2.2.2))
 o:=fun Z p e K=>K .normal ⟨[(0,.v (.int .u64 p.1)),(1,.v (.int .u64 p.2.1)),(6,.loc 0 0),(7,.v (.all 0))],[[.bool p.2.2.2.1,.int .i64 p.2.2.2.2.1,.int .i64 p.2.2.2.2.2.1]],⟨[.cells (.int .i64) e],0⟩,0⟩
 pol:=⟨[0,1,6,7,97],[],[],[]⟩
 pe:=[(.normal,⟨[0,1,6,7],[],[],[]⟩)]
def f123_c {X:Type} (a:Int×Int×Bool) (K:TCongr→Option X):Option X:=
 cond (decide (a.1=(0:Int)))
 ((f123_r2.m (a.2,false,0,0)).bind fun e1=>
 cond e1
 (K (false,(0,(wi64 ((0:Int)-(wi64 a.2.1))))))
 ((f123_r4.m (a.2,false,0,0)).bind fun e2=>
 cond e2
 (K (false,(0,(wi64 a.2.1))))
 (K (true,(0,0)))))
 (cond (decide (a.1=(0:Int)))
 (none)
 ((f123_r8.m (a.1,(Int.tmod a.2.1 a.1),a.2.2,false,0,0)).bind fun e3=>
 (f123_c9.m (a.1,(Int.tmod a.2.1 a.1),e3,false,0,0)).bind fun e4=>
 (f123_c12.m (a.1,e4,(decide (e4≤(2147483647:Int))),false,0,0)).bind fun e5=>
 (f123_c14.m (a.1,e4,(decide ((wu64 (a.1-e4))≤(2147483648:Int))),false,0,0,e5)).bind fun e6=>
 (f123_r15.m (a.1,e4,false,0,0,e6)).bind fun e7=>
 (f123_c16.m (a.1,e4,e7,false,0,0,e6)).bind fun e8=>
 (f123_r17.m (a.1,e4,false,0,0,e8)).bind fun e9=>
 (f123_c18.m (a.1,e4,e9,false,0,0,e8)).bind fun e10=>
 cond (decide ((nt (List.length e10))=(0:Int)))
 (K (true,(0,0)))
 (cond (decide ((nt (List.length e10))=(1:Int)))
 (ask (V.inRange 0 (List.length e10)) (K (false,(0,(gx e10 0 (0:Int))))))
 (K (false,((wi64 a.1),(wi64 e4)))))))
def f123_m (a:Int×Int×Bool):Option (TCongr):=f123_c a some
def f123_sp:Spec:=f123_s.sp f123_m
noncomputable def f123_e:Env:=⟨fun k=>[1000009,1000012,1000014,1000016,1000018,2000002,2000004,2000008,2000015,2000017].contains k,callsL [(105,f105_sp),(111,f111_sp)],fun X k s K=>if k=2000002 then f123_r2.q X s K else if k=2000004 then f123_r4.q X s K else if k=2000008 then f123_r8.q X s K else if k=1000009 then f123_c9.q X s K else if k=1000012 then f123_c12.q X s K else if k=1000014 then f123_c14.q X s K else if k=2000015 then f123_r15.q X s K else if k=1000016 then f123_c16.q X s K else if k=2000017 then f123_r17.q X s K else if k=1000018 then f123_c18.q X s K else none⟩
noncomputable def f123_r2_c:Code:=subAt [1,0,1,0,0,0] (bodyOf Tryz.f123)
theorem f123_r2_ok {C:V.Callee} (hc:SimCall C f123_e.call):LoopSim f123_e.loop (vc par C true [6] 117) f123_r2_c:=
 piece_form glob_ok (env:=f123_e) (env0:=⟨offJ f123_e.join 2000002,f123_e.call,f123_e.loop⟩) hc rfl (lp_of (by kernel_rfl) lp_nil) f123_r2 (by kernel_rfl) (by intros;simp only [f123_r2,PD.m,n1,n2,n3,n4,n5,n6,n7,n8]) (fun _=>by kernel_rfl) (fun _=>rfl) (fun _ _ _ _=>rfl) (fun _ _ _=>by kernel_rfl)
noncomputable def f123_r4_c:Code:=subAt [1,0,1,0,1,0,0] (bodyOf Tryz.f123)
theorem f123_r4_ok {C:V.Callee} (hc:SimCall C f123_e.call):LoopSim f123_e.loop (vc par C true [6] 117) f123_r4_c:=
 piece_form glob_ok (env:=f123_e) (env0:=⟨offJ f123_e.join 2000004,f123_e.call,f123_e.loop⟩) hc rfl (lp_of (by kernel_rfl) lp_nil) f123_r4 (by kernel_rfl) (by intros;simp only [f123_r4,PD.m,n1,n2,n3,n4,n5,n6,n7,n8]) (fun _=>by kernel_rfl) (fun _=>rfl) (fun _ _ _ _=>rfl) (fun _ _ _=>by kernel_rfl)
noncomputable def f123_r8_c:Code:=subAt [1,1,1,0,0] (bodyOf Tryz.f123)
theorem f123_r8_ok {C:V.Callee} (hc:SimCall C f123_e.call):LoopSim f123_e.loop (vc par C true [6] 117) f123_r8_c:=
 piece_form glob_ok (env:=f123_e) (env0:=⟨offJ f123_e.join 2000008,f123_e.call,f123_e.loop⟩) hc rfl (lp_of (by kernel_rfl) lp_nil) f123_r8 (by kernel_rfl) (by intros;simp only [f123_r8,PD.m,n1,n2,n3,n4,n5,n6,n7,n8]) (fun _=>by kernel_rfl) (fun _=>rfl) (fun _ _ _ _=>rfl) (fun _ _ _=>by kernel_rfl)
noncomputable def f123_c9_c:Code:=subAt [1,1,1,0,1] (bodyOf Tryz.f123)
theorem f123_c9_ok {C:V.Callee} (hc:SimCall C f123_e.call):LoopSim f123_e.loop (vc par C true [6] 117) f123_c9_c:=
 piece_form glob_ok (env:=f123_e) (env0:=⟨offJ f123_e.join 1000009,f123_e.call,f123_e.loop⟩) hc rfl (lp_of (by kernel_rfl) lp_nil) f123_c9 (by kernel_rfl) (by intros;simp only [f123_c9,PD.m,n1,n2,n3,n4,n5,n6,n7,n8]) (fun _=>by kernel_rfl) (fun _=>rfl) (fun _ _ _ _=>rfl) (fun _ _ _=>by kernel_rfl)
noncomputable def f123_c12_c:Code:=subAt [1,1,1,1,1,0,1] (bodyOf Tryz.f123)
theorem f123_c12_ok {C:V.Callee} (hc:SimCall C f123_e.call):LoopSim f123_e.loop (vc par C true [6] 117) f123_c12_c:=
 piece_form glob_ok (env:=f123_e) (env0:=⟨offJ f123_e.join 1000012,f123_e.call,f123_e.loop⟩) hc rfl (lp_of (by kernel_rfl) lp_nil) f123_c12 (by kernel_rfl) (by intros;simp only [f123_c12,PD.m,n1,n2,n3,n4,n5,n6,n7,n8]) (fun _=>by kernel_rfl) (fun _=>rfl) (fun _ _ _ _=>rfl) (fun _ _ _=>by kernel_rfl)
noncomputable def f123_c14_c:Code:=subAt [1,1,1,1,1,1,0,1] (bodyOf Tryz.f123)
theorem f123_c14_ok {C:V.Callee} (hc:SimCall C f123_e.call):LoopSim f123_e.loop (vc par C true [6] 117) f123_c14_c:=
 piece_form glob_ok (env:=f123_e) (env0:=⟨offJ f123_e.join 1000014,f123_e.call,f123_e.loop⟩) hc rfl (lp_of (by kernel_rfl) lp_nil) f123_c14 (by kernel_rfl) (by intros;simp only [f123_c14,PD.m,n1,n2,n3,n4,n5,n6,n7,n8]) (fun _=>by kernel_rfl) (fun _=>rfl) (fun _ _ _ _=>rfl) (fun _ _ _=>by kernel_rfl)
noncomputable def f123_r15_c:Code:=subAt [1,1,1,1,1,1,1,0,0] (bodyOf Tryz.f123)
theorem f123_r15_ok {C:V.Callee} (hc:SimCall C f123_e.call):LoopSim f123_e.loop (vc par C true [6] 117) f123_r15_c:=
 piece_form glob_ok (env:=f123_e) (env0:=⟨offJ f123_e.join 2000015,f123_e.call,f123_e.loop⟩) hc rfl (lp_of (by kernel_rfl) lp_nil) f123_r15 (by kernel_rfl) (by intros;simp only [f123_r15,PD.m,n1,n2,n3,n4,n5,n6,n7,n8]) (fun _=>by kernel_rfl) (fun _=>rfl) (fun _ _ _ _=>rfl) (fun _ _ _=>by kernel_rfl)
noncomputable def f123_c16_c:Code:=subAt [1,1,1,1,1,1,1,0,1] (bodyOf Tryz.f123)
theorem f123_c16_ok {C:V.Callee} (hc:SimCall C f123_e.call):LoopSim f123_e.loop (vc par C true [6] 117) f123_c16_c:=
 piece_form glob_ok (env:=f123_e) (env0:=⟨offJ f123_e.join 1000016,f123_e.call,f123_e.loop⟩) hc rfl (lp_of (by kernel_rfl) lp_nil) f123_c16 (by kernel_rfl) (by intros;simp only [f123_c16,PD.m,n1,n2,n3,n4,n5,n6,n7,n8]) (fun _=>by kernel_rfl) (fun _=>rfl) (fun _ _ _ _=>rfl) (fun _ _ _=>by kernel_rfl)
noncomputable def f123_r17_c:Code:=subAt [1,1,1,1,1,1,1,1,0,0] (bodyOf Tryz.f123)
theorem f123_r17_ok {C:V.Callee} (hc:SimCall C f123_e.call):LoopSim f123_e.loop (vc par C true [6] 117) f123_r17_c:=
 piece_form glob_ok (env:=f123_e) (env0:=⟨offJ f123_e.join 2000017,f123_e.call,f123_e.loop⟩) hc rfl (lp_of (by kernel_rfl) lp_nil) f123_r17 (by kernel_rfl) (by intros;simp only [f123_r17,PD.m,n1,n2,n3,n4,n5,n6,n7,n8]) (fun _=>by kernel_rfl) (fun _=>rfl) (fun _ _ _ _=>rfl) (fun _ _ _=>by kernel_rfl)
noncomputable def f123_c18_c:Code:=subAt [1,1,1,1,1,1,1,1,0,1] (bodyOf Tryz.f123)
theorem f123_c18_ok {C:V.Callee} (hc:SimCall C f123_e.call):LoopSim f123_e.loop (vc par C true [6] 117) f123_c18_c:=
 piece_form glob_ok (env:=f123_e) (env0:=⟨offJ f123_e.join 1000018,f123_e.call,f123_e.loop⟩) hc rfl (lp_of (by kernel_rfl) lp_nil) f123_c18 (by kernel_rfl) (by intros;simp only [f123_c18,PD.m,n1,n2,n3,n4,n5,n6,n7,n8]) (fun _=>by kernel_rfl) (fun _=>rfl) (fun _ _ _ _=>rfl) (fun _ _ _=>by kernel_rfl)
theorem f123_ok:OK (2) 123 (f123_s.sp f123_m):=
 fnOK (d:=1) (env:=f123_e) (callsL_sim (cc f105_ok (cc f111_ok cn))) (fn:=Tryz.f123) (locs:=[6]) (sh:= .any) (fz:=false) (by kernel_rfl) (fun hc=>(lp_of (by kernel_rfl) (lp_cons (f123_r2_ok hc) (lp_cons (f123_r4_ok hc) (lp_cons (f123_r8_ok hc) (lp_cons (f123_c9_ok hc) (lp_cons (f123_c12_ok hc) (lp_cons (f123_c14_ok hc) (lp_cons (f123_r15_ok hc) (lp_cons (f123_c16_ok hc) (lp_cons (f123_r17_ok hc) (lp_cons (f123_c18_ok hc) lp_nil)))))))))))) (mc:=fun X a K=>f123_c a K) (fun _ _ _=>by kernel_rfl) (by intros;simp only [f123_m,f123_c,n1,n2,n3,n4,n5,n6,n7,n8]) (fun _=>rfl)
def f71_s:FS (Int×Int) (TCongr) where
 sk:=⟨(.cons (.int .i64) (.cons (.int .i64) .nil)),[],0⟩
 a:=fun u=>(u.1.1,u.1.2.1)
 n:=fun a=>((a.1,(a.2,())),())
 o:=fun Z a r K=>K (.agg [.bool r.1,.int .i64 r.2.1,.int .i64 r.2.2]) ⟨[],0⟩
def f71_c {X:Type} (a:Int×Int) (K:TCongr→Option X):Option X:=
 (f111_m a.1).bind fun r1=>
 (f111_m a.2).bind fun r2=>
 (f123_m (r1,r2,(decide (a.2<(0:Int))))).bind fun r3=>
 K r3
def f71_m (a:Int×Int):Option (TCongr):=f71_c a some
def f71_sp:Spec:=f71_s.sp f71_m
noncomputable def f71_e:Env:=⟨fun k=>[].contains k,callsL [(111,f111_sp),(123,f123_sp)],fun X k s K=>none⟩
theorem f71_ok:OK (3) 71 (f71_s.sp f71_m):=
 fnOK (d:=2) (env:=f71_e) (callsL_sim (cc f111_ok (cc f123_ok cn))) (fn:=Tryz.f71) (locs:=[4]) (sh:= .any) (fz:=false) (by kernel_rfl) (fun hc=>(lp_of (by kernel_rfl) lp_nil)) (mc:=fun X a K=>f71_c a K) (fun _ _ _=>by kernel_rfl) (by intros;simp only [f71_m,f71_c,n1,n2,n3,n4,n5,n6,n7,n8]) (fun _=>rfl)
def f33_s:FS (TGraph) ((List TCongr)×(List TCongr)) where
 sk:=⟨(.cons (.agg (.cons (.lit cInstr) (.cons (.int .i64) (.cons (.int .i64) (.cons (.int .i64) (.cons (.lit cArray) (.cons (.lit cScalar) (.cons (.lit cArray) (.cons (.lit cItv) .nil))))))))) .nil),[],0⟩
 a:=fun u=>(u.1.1.1,(u.1.1.2.1,(u.1.1.2.2.1,(u.1.1.2.2.2.1,(u.1.1.2.2.2.2.1,(u.1.1.2.2.2.2.2.1,(u.1.1.2.2.2.2.2.2.1,u.1.1.2.2.2.2.2.2.2.1)))))))
 n:=fun a=>(((a.1,(a.2.1,(a.2.2.1,(a.2.2.2.1,(a.2.2.2.2.1,(a.2.2.2.2.2.1,(a.2.2.2.2.2.2.1,(a.2.2.2.2.2.2.2,())))))))),()),())
 o:=fun Z a r K=>K (.agg [.bool true,.lit cCongr r.1,.lit cCongr r.2]) ⟨[],0⟩
def f33_l3:LD (TGraph×Bool×Bool) (Int×(List TCongr)) ((List TCongr)) where
 sk:=⟨[(1,.loc 0 0),(2,.loc 1 0),(3,.loc 2 0),(4,.v (.int .i64))],[(.cons (.lit cInstr) (.cons (.int .i64) (.cons (.int .i64) (.cons (.int .i64) (.cons (.lit cArray) (.cons (.lit cScalar) (.cons (.lit cArray) (.cons (.lit cItv) .nil)))))))),(.cons .bool (.cons .nils (.cons .nils .nil))),(.cons .bool (.cons (.all 0) (.cons .nils .nil)))],[.cells cCongr],0,0⟩
 p:=fun u=>((u.2.1.1.1,(u.2.1.1.2.1,(u.2.1.1.2.2.1,(u.2.1.1.2.2.2.1,(u.2.1.1.2.2.2.2.1,(u.2.1.1.2.2.2.2.2.1,(u.2.1.1.2.2.2.2.2.2.1,u.2.1.1.2.2.2.2.2.2.2.1))))))),u.2.1.2.1.1,u.2.1.2.2.1.1)
 t:=fun u=>(u.1.1,u.2.2.1)
 n:=fun p t=>((t.1,()),(((p.1.1,(p.1.2.1,(p.1.2.2.1,(p.1.2.2.2.1,(p.1.2.2.2.2.1,(p.1.2.2.2.2.2.1,(p.1.2.2.2.2.2.2.1,(p.1.2.2.2.2.2.2.2,())))))))),((p.2.1,((),((),()))),((p.2.2,((),((),()))),()))),(t.2,())))
 st:=fun Y p t ki ke=>cond (decide (t.1<(nt (List.length p.1.2.2.2.2.2.1))))
  (ask (V.inRange t.1 (List.length p.1.2.2.2.2.2.1)) ((f71_m (0,(gx p.1.2.2.2.2.2.1 (Int.toNat t.1) dScalar).2.2)).bind fun r1=>
  ask (decide (((List.length t.2)+(List.length ([r1]:List TCongr))) * 24≤70368744177664)&&decide (((List.length t.2)+(List.length ([r1]:List TCongr)))<9223372036854775808)) (ki ((wi64 (t.1+(1:Int))),(t.2++([r1]:List TCongr))))))
  (ke (t.2))
 o:=fun Z p e K=>K (.exit 0) ⟨[(1,.loc 0 0),(2,.loc 1 0),(3,.loc 2 0)],[[.lit cInstr p.1.1,.int .i64 p.1.2.1,.int .i64 p.1.2.2.1,.int .i64 p.1.2.2.2.1,.lit cArray p.1.2.2.2.2.1,.lit cScalar p.1.2.2.2.2.2.1,.lit cArray p.1.2.2.2.2.2.2.1,.lit cItv p.1.2.2.2.2.2.2.2],[.bool p.2.1,.nils,.nils],[.bool p.2.2,.all 0,.nils]],⟨[.cells cCongr e],0⟩,0⟩
 pol:=⟨[1,2,3,4],[],[(2,[.any,(.own cCongr),.any])],[]⟩
 pe:=[(.exit 0,⟨[1,2,3],[],[],[]⟩)]
def f33_l7:LD (TGraph×Bool×Bool×(List TCongr)) (Int×(List TCongr)) ((List TCongr)) where
 sk:=⟨[(1,.loc 0 0),(2,.loc 1 0),(3,.loc 2 0),(5,.v (.int .i64))],[(.cons (.lit cInstr) (.cons (.int .i64) (.cons (.int .i64) (.cons (.int .i64) (.cons (.lit cArray) (.cons (.lit cScalar) (.cons (.lit cArray) (.cons (.lit cItv) .nil)))))))),(.cons .bool (.cons .nils (.cons .nils .nil))),(.cons .bool (.cons (.all 0) (.cons (.all 1) .nil)))],[.cells cCongr,.cells cCongr],0,0⟩
 p:=fun u=>((u.2.1.1.1,(u.2.1.1.2.1,(u.2.1.1.2.2.1,(u.2.1.1.2.2.2.1,(u.2.1.1.2.2.2.2.1,(u.2.1.1.2.2.2.2.2.1,(u.2.1.1.2.2.2.2.2.2.1,u.2.1.1.2.2.2.2.2.2.2.1))))))),u.2.1.2.1.1,u.2.1.2.2.1.1,u.2.2.1)
 t:=fun u=>(u.1.1,u.2.2.2.1)
 n:=fun p t=>((t.1,()),(((p.1.1,(p.1.2.1,(p.1.2.2.1,(p.1.2.2.2.1,(p.1.2.2.2.2.1,(p.1.2.2.2.2.2.1,(p.1.2.2.2.2.2.2.1,(p.1.2.2.2.2.2.2.2,())))))))),((p.2.1,((),((),()))),((p.2.2.1,((),((),()))),()))),(p.2.2.2,(t.2,()))))
 st:=fun Y p t ki ke=>cond (decide (t.1<(nt (List.length p.1.2.2.2.2.2.2.1))))
  (ask (V.inRange t.1 (List.length p.1.2.2.2.2.2.2.1)) ((f71_m (0,(gx p.1.2.2.2.2.2.2.1 (Int.toNat t.1) dArray).2.2.2)).bind fun r1=>
  ask (decide (((List.length t.2)+(List.length ([r1]:List TCongr))) * 24≤70368744177664)&&decide (((List.length t.2)+(List.length ([r1]:List TCongr)))<9223372036854775808)) (ki ((wi64 (t.1+(1:Int))),(t.2++([r1]:List TCongr))))))
  (ke (t.2))
 o:=fun Z p e K=>K (.exit 2) ⟨[(2,.loc 0 0),(3,.loc 1 0)],[[.bool p.2.1,.nils,.nils],[.bool p.2.2.1,.all 0,.all 1]],⟨[.cells cCongr p.2.2.2,.cells cCongr e],0⟩,0⟩
 pol:=⟨[1,2,3,5],[],[(2,[.any,.any,(.own cCongr)])],[]⟩
 pe:=[(.exit 2,⟨[2,3],[],[],[]⟩)]
def f33_c {X:Type} (a:TGraph) (K:(List TCongr)×(List TCongr)→Option X):Option X:=
 (loopAll (f33_l3.m (a,false,true)) (0,[])).bind fun e1=>
 (loopAll (f33_l7.m (a,false,true,e1)) (0,[])).bind fun e2=>
 K (e1,e2)
def f33_m (a:TGraph):Option ((List TCongr)×(List TCongr)):=f33_c a some
def f33_sp:Spec:=f33_s.sp f33_m
noncomputable def f33_e:Env:=⟨fun k=>[].contains k,callsL [(71,f71_sp)],fun X k s K=>if k=3 then f33_l3.q X s K else if k=7 then f33_l7.q X s K else none⟩
noncomputable def f33_l3_c:Code:=subAt [1,1,0,1,0,0] (bodyOf Tryz.f33)
theorem f33_l3_ok {C:V.Callee} (hc:SimCall C f33_e.call):LoopSim f33_e.loop (vc par C true [1,2,3] 46) (.loop f33_l3_c):=
 loop_form glob_ok hc (lp_of (by kernel_rfl) lp_nil) f33_l3 (by kernel_rfl) (by intros;simp only [f33_l3,LD.m,n1,n2,n3,n4,n5,n6,n7,n8]) (fun _ _=>by kernel_rfl) (fun _=>rfl) (fun _ _ _ _=>rfl) (fun _ _ _=>by kernel_rfl)
noncomputable def f33_l7_c:Code:=subAt [1,1,1,0,1,0,0] (bodyOf Tryz.f33)
theorem f33_l7_ok {C:V.Callee} (hc:SimCall C f33_e.call):LoopSim f33_e.loop (vc par C true [1,2,3] 46) (.loop f33_l7_c):=
 loop_form glob_ok hc (lp_of (by kernel_rfl) lp_nil) f33_l7 (by kernel_rfl) (by intros;simp only [f33_l7,LD.m,n1,n2,n3,n4,n5,n6,n7,n8]) (fun _ _=>by kernel_rfl) (fun _=>rfl) (fun _ _ _ _=>rfl) (fun _ _ _=>by kernel_rfl)
theorem f33_ok:OK (4) 33 (f33_s.sp f33_m):=
 fnOK (d:=3) (env:=f33_e) (callsL_sim (cc f71_ok cn)) (fn:=Tryz.f33) (locs:=[1,2,3]) (sh:=(.agg [.any,(.lit cCongr),(.lit cCongr)])) (fz:=true) (by kernel_rfl) (fun hc=>(lp_of (by kernel_rfl) (lp_cons (f33_l3_ok hc) (lp_cons (f33_l7_ok hc) lp_nil)))) (mc:=fun X a K=>f33_c a K) (fun _ _ _=>by kernel_rfl) (by intros;simp only [f33_m,f33_c,n1,n2,n3,n4,n5,n6,n7,n8]) (fun _=>rfl)
def f17_s:FS (TMods×TMods) (Bool) where
 sk:=⟨(.cons (.agg (.cons .bool (.cons (.lit cCongr) (.cons (.lit cCongr) .nil)))) (.cons (.agg (.cons .bool (.cons (.lit cCongr) (.cons (.lit cCongr) .nil)))) .nil)),[],0⟩
 a:=fun u=>((u.1.1.1,(u.1.1.2.1,u.1.1.2.2.1)),(u.1.2.1.1,(u.1.2.1.2.1,u.1.2.1.2.2.1)))
 n:=fun a=>(((a.1.1,(a.1.2.1,(a.1.2.2,()))),((a.2.1,(a.2.2.1,(a.2.2.2,()))),())),())
 o:=fun Z a r K=>K (.bool r) ⟨[],0⟩
def f17_l4:LD ((TMods×TMods)) (Int) ((Unit) ⊕ (Unit)) where
 sk:=⟨[(2,.loc 0 0),(3,.loc 1 0),(5,.v (.int .i64))],[(.cons .bool (.cons (.lit cCongr) (.cons (.lit cCongr) .nil))),(.cons .bool (.cons (.lit cCongr) (.cons (.lit cCongr) .nil)))],[],0,0⟩
 p:=fun u=>((u.2.1.1.1,(u.2.1.1.2.1,u.2.1.1.2.2.1)),(u.2.1.2.1.1,(u.2.1.2.1.2.1,u.2.1.2.1.2.2.1)))
 t:=fun u=>u.1.1
 n:=fun p t=>((t,()),(((p.1.1,(p.1.2.1,(p.1.2.2,()))),((p.2.1,(p.2.2.1,(p.2.2.2,()))),())),()))
 st:=fun Y p t ki ke=>cond (decide (t<(nt (List.length p.1.2.1))))
  (ask (V.inRange t (List.length p.1.2.1)) (ask (V.inRange t (List.length p.2.2.1)) (cond (!(((gx p.1.2.1 (Int.toNat t) dCongr).1==(gx p.2.2.1 (Int.toNat t) dCongr).1)&&((decide ((gx p.1.2.1 (Int.toNat t) dCongr).2.1=(gx p.2.2.1 (Int.toNat t) dCongr).2.1))&&((decide ((gx p.1.2.1 (Int.toNat t) dCongr).2.2=(gx p.2.2.1 (Int.toNat t) dCongr).2.2))&&true))))
  (ke (.inl ()))
  (ki ((wi64 (t+(1:Int))))))))
  (ke (.inr (())))
 o:=fun Z p e K=>Sum.elim (fun e=>K .ret ⟨[(4,.v (.bool false))],[],⟨[],0⟩,0⟩) (fun e=>K (.exit 0) ⟨[(2,.loc 0 0),(3,.loc 1 0)],[[.bool p.1.1,.lit cCongr p.1.2.1,.lit cCongr p.1.2.2],[.bool p.2.1,.lit cCongr p.2.2.1,.lit cCongr p.2.2.2]],⟨[],0⟩,0⟩) e
 pol:=⟨[2,3,5],[],[],[]⟩
 pe:=[(.ret,⟨[4],[],[],[]⟩),(.exit 0,⟨[2,3],[],[],[]⟩)]
def f17_l9:LD ((TMods×TMods)) (Int) ((Unit) ⊕ (Unit)) where
 sk:=⟨[(2,.loc 0 0),(3,.loc 1 0),(6,.v (.int .i64))],[(.cons .bool (.cons (.lit cCongr) (.cons (.lit cCongr) .nil))),(.cons .bool (.cons (.lit cCongr) (.cons (.lit cCongr) .nil)))],[],0,0⟩
 p:=fun u=>((u.2.1.1.1,(u.2.1.1.2.1,u.2.1.1.2.2.1)),(u.2.1.2.1.1,(u.2.1.2.1.2.1,u.2.1.2.1.2.2.1)))
 t:=fun u=>u.1.1
 n:=fun p t=>((t,()),(((p.1.1,(p.1.2.1,(p.1.2.2,()))),((p.2.1,(p.2.2.1,(p.2.2.2,()))),())),()))
 st:=fun Y p t ki ke=>cond (decide (t<(nt (List.length p.1.2.2))))
  (ask (V.inRange t (List.length p.1.2.2)) (ask (V.inRange t (List.length p.2.2.2)) (cond (!(((gx p.1.2.2 (Int.toNat t) dCongr).1==(gx p.2.2.2 (Int.toNat t) dCongr).1)&&((decide ((gx p.1.2.2 (Int.toNat t) dCongr).2.1=(gx p.2.2.2 (Int.toNat t) dCongr).2.1))&&((decide ((gx p.1.2.2 (Int.toNat t) dCongr).2.2=(gx p.2.2.2 (Int.toNat t) dCongr).2.2))&&true))))
  (ke (.inl ()))
  (ki ((wi64 (t+(1:Int))))))))
  (ke (.inr (())))
 o:=fun Z p e K=>Sum.elim (fun e=>K .ret ⟨[(4,.v (.bool false))],[],⟨[],0⟩,0⟩) (fun e=>K (.exit 2) ⟨[],[],⟨[],0⟩,0⟩) e
 pol:=⟨[2,3,6],[],[],[]⟩
 pe:=[(.ret,⟨[4],[],[],[]⟩),(.exit 2,⟨[],[],[],[]⟩)]
def f17_c {X:Type} (a:TMods×TMods) (K:Bool→Option X):Option X:=
 cond (!(a.1.1==a.2.1))
 (K false)
 (cond (!(decide ((nt (List.length a.1.2.1))=(nt (List.length a.2.2.1)))))
 (K false)
 (cond (!(decide ((nt (List.length a.1.2.2))=(nt (List.length a.2.2.2)))))
 (K false)
 ((loopAll (f17_l4.m a) 0).bind fun e1=>
 Sum.elim (fun e2=>K false)
 (fun e3=>(loopAll (f17_l9.m a) 0).bind fun e4=>
 Sum.elim (fun e5=>K false)
 (fun e6=>K true) e4) e1)))
def f17_m (a:TMods×TMods):Option (Bool):=f17_c a some
def f17_sp:Spec:=f17_s.sp f17_m
noncomputable def f17_e:Env:=⟨fun k=>[].contains k,callsL [],fun X k s K=>if k=4 then f17_l4.q X s K else if k=9 then f17_l9.q X s K else none⟩
noncomputable def f17_l4_c:Code:=subAt [1,1,0,1,0,0] (bodyOf Tryz.f17)
theorem f17_l4_ok {C:V.Callee} (hc:SimCall C f17_e.call):LoopSim f17_e.loop (vc par C true [2,3] 66) (.loop f17_l4_c):=
 loop_form glob_ok hc (lp_of (by kernel_rfl) lp_nil) f17_l4 (by kernel_rfl) (by intros;simp only [f17_l4,LD.m,n1,n2,n3,n4,n5,n6,n7,n8]) (fun _ _=>by kernel_rfl) (fun _=>rfl) (fun _ _ e _=>by rcases e with e|e<;>rfl) (fun _ _ _=>by kernel_rfl)
noncomputable def f17_l9_c:Code:=subAt [1,1,1,0,1,0,0] (bodyOf Tryz.f17)
theorem f17_l9_ok {C:V.Callee} (hc:SimCall C f17_e.call):LoopSim f17_e.loop (vc par C true [2,3] 66) (.loop f17_l9_c):=
 loop_form glob_ok hc (lp_of (by kernel_rfl) lp_nil) f17_l9 (by kernel_rfl) (by intros;simp only [f17_l9,LD.m,n1,n2,n3,n4,n5,n6,n7,n8]) (fun _ _=>by kernel_rfl) (fun _=>rfl) (fun _ _ e _=>by rcases e with e|e<;>rfl) (fun _ _ _=>by kernel_rfl)
theorem f17_ok:OK (1) 17 (f17_s.sp f17_m):=
 fnOK (d:=0) (env:=f17_e) (callsL_sim cn) (fn:=Tryz.f17) (locs:=[2,3]) (sh:= .any) (fz:=false) (by kernel_rfl) (fun hc=>(lp_of (by kernel_rfl) (lp_cons (f17_l4_ok hc) (lp_cons (f17_l9_ok hc) lp_nil)))) (mc:=fun X a K=>f17_c a K) (fun _ _ _=>by kernel_rfl) (by intros;simp only [f17_m,f17_c,n1,n2,n3,n4,n5,n6,n7,n8]) (fun _=>rfl)
def f73_s:FS (TCongr) (Bool) where
 sk:=⟨(.cons (.agg (.cons .bool (.cons (.int .i64) (.cons (.int .i64) .nil)))) .nil),[],0⟩
 a:=fun u=>(u.1.1.1,(u.1.1.2.1,u.1.1.2.2.1))
 n:=fun a=>(((a.1,(a.2.1,(a.2.2,()))),()),())
 o:=fun Z a r K=>K (.bool r) ⟨[],0⟩
def f73_c {X:Type} (a:TCongr) (K:Bool→Option X):Option X:=
 cond a.1
 (K ((a.1==true)&&((decide (a.2.1=(0:Int)))&&((decide (a.2.2=(0:Int)))&&true))))
 (cond (decide ((0:Int)≤a.2.1))
 ((f122_m (a.2.1,a.2.2)).bind fun r1=>
 K ((r1.1==a.1)&&((decide (r1.2.1=a.2.1))&&((decide (r1.2.2=a.2.2))&&true))))
 (K false))
def f73_m (a:TCongr):Option (Bool):=f73_c a some
def f73_sp:Spec:=f73_s.sp f73_m
noncomputable def f73_e:Env:=⟨fun k=>[].contains k,callsL [(124,f124_sp),(122,f122_sp)],fun X k s K=>none⟩
theorem f73_ok:OK (5) 73 (f73_s.sp f73_m):=
 fnOK (d:=4) (env:=f73_e) (callsL_sim (cc f124_ok (cc f122_ok cn))) (fn:=Tryz.f73) (locs:=[1]) (sh:= .any) (fz:=false) (by kernel_rfl) (fun hc=>(lp_of (by kernel_rfl) lp_nil)) (mc:=fun X a K=>f73_c a K) (fun _ _ _=>by kernel_rfl) (by intros;simp only [f73_m,f73_c,n1,n2,n3,n4,n5,n6,n7,n8]) (fun _=>rfl)
def f72_s:FS (TCongr) (Bool) where
 sk:=⟨(.cons (.agg (.cons .bool (.cons (.int .i64) (.cons (.int .i64) .nil)))) .nil),[],0⟩
 a:=fun u=>(u.1.1.1,(u.1.1.2.1,u.1.1.2.2.1))
 n:=fun a=>(((a.1,(a.2.1,(a.2.2,()))),()),())
 o:=fun Z a r K=>K (.bool r) ⟨[],0⟩
def f72_c {X:Type} (a:TCongr) (K:Bool→Option X):Option X:=
 cond a.1
 (K true)
 ((f73_m a).bind fun r1=>
 K (!r1))
def f72_m (a:TCongr):Option (Bool):=f72_c a some
def f72_sp:Spec:=f72_s.sp f72_m
noncomputable def f72_e:Env:=⟨fun k=>[].contains k,callsL [(73,f73_sp)],fun X k s K=>none⟩
theorem f72_ok:OK (6) 72 (f72_s.sp f72_m):=
 fnOK (d:=5) (env:=f72_e) (callsL_sim (cc f73_ok cn)) (fn:=Tryz.f72) (locs:=[1]) (sh:= .any) (fz:=false) (by kernel_rfl) (fun hc=>(lp_of (by kernel_rfl) lp_nil)) (mc:=fun X a K=>f72_c a K) (fun _ _ _=>by kernel_rfl) (by intros;simp only [f72_m,f72_c,n1,n2,n3,n4,n5,n6,n7,n8]) (fun _=>rfl)
def f125_s:FS ((List TCongr)) (Int) where
 sk:=⟨(.cons (.lit cCongr) (.cons (.fn 72 .nil) .nil)),[],0⟩
 a:=fun u=>u.1.1
 n:=fun a=>((a,((),())),())
 o:=fun Z a r K=>K (.int .i64 r) ⟨[],0⟩
def f125_l2:LD ((List TCongr)×Int) (Int) ((Int) ⊕ (Unit)) where
 sk:=⟨[(0,.v (.lit cCongr)),(1,.v (.fn 72 .nil)),(7,.v (.int .i64)),(8,.v (.int .i64))],[],[],0,0⟩
 p:=fun u=>(u.1.1,u.1.2.2.1)
 t:=fun u=>u.1.2.2.2.1
 n:=fun p t=>((p.1,((),(p.2,(t,())))),((),()))
 st:=fun Y p t ki ke=>cond (decide (t<p.2))
  (ask (V.inRange t (List.length p.1)) ((f72_m (gx p.1 (Int.toNat t) dCongr)).bind fun r1=>
  cond r1
  (ke (.inl (t)))
  (ki ((wi64 (t+(1:Int)))))))
  (ke (.inr (())))
 o:=fun Z p e K=>Sum.elim (fun e=>K .ret ⟨[(4,.v (.int .i64 e))],[],⟨[],0⟩,0⟩) (fun e=>K (.exit 0) ⟨[],[],⟨[],0⟩,0⟩) e
 pol:=⟨[0,1,7,8],[],[],[]⟩
 pe:=[(.ret,⟨[4],[],[],[]⟩),(.exit 0,⟨[],[],[],[]⟩)]
def f125_c {X:Type} (a:(List TCongr)) (K:Int→Option X):Option X:=
 (loopAll (f125_l2.m (a,(nt (List.length a)))) 0).bind fun e1=>
 Sum.elim (fun e2=>K e2)
 (fun e3=>K (-1)) e1
def f125_m (a:(List TCongr)):Option (Int):=f125_c a some
def f125_sp:Spec:=f125_s.sp f125_m
noncomputable def f125_e:Env:=⟨fun k=>[].contains k,callsL [(72,f72_sp)],fun X k s K=>if k=2 then f125_l2.q X s K else none⟩
noncomputable def f125_l2_c:Code:=subAt [1,0,1,0,0] (bodyOf Tryz.f125)
theorem f125_l2_ok {C:V.Callee} (hc:SimCall C f125_e.call):LoopSim f125_e.loop (vc par C true [] 19) (.loop f125_l2_c):=
 loop_form glob_ok hc (lp_of (by kernel_rfl) lp_nil) f125_l2 (by kernel_rfl) (by intros;simp only [f125_l2,LD.m,n1,n2,n3,n4,n5,n6,n7,n8]) (fun _ _=>by kernel_rfl) (fun _=>rfl) (fun _ _ e _=>by rcases e with e|e<;>rfl) (fun _ _ _=>by kernel_rfl)
theorem f125_ok:OK (7) 125 (f125_s.sp f125_m):=
 fnOK (d:=6) (env:=f125_e) (callsL_sim (cc f72_ok cn)) (fn:=Tryz.f125) (locs:=[]) (sh:= .any) (fz:=false) (by kernel_rfl) (fun hc=>(lp_of (by kernel_rfl) (lp_cons (f125_l2_ok hc) lp_nil))) (mc:=fun X a K=>f125_c a K) (fun _ _ _=>by kernel_rfl) (by intros;simp only [f125_m,f125_c,n1,n2,n3,n4,n5,n6,n7,n8]) (fun _=>rfl)
def f74_s:FS ((List TCongr)) (Bool) where
 sk:=⟨(.cons (.lit cCongr) (.cons (.fn 72 .nil) .nil)),[],0⟩
 a:=fun u=>u.1.1
 n:=fun a=>((a,((),())),())
 o:=fun Z a r K=>K (.bool r) ⟨[],0⟩
def f74_c {X:Type} (a:(List TCongr)) (K:Bool→Option X):Option X:=
 (f125_m a).bind fun r1=>
 K (decide ((0:Int)≤r1))
def f74_m (a:(List TCongr)):Option (Bool):=f74_c a some
def f74_sp:Spec:=f74_s.sp f74_m
noncomputable def f74_e:Env:=⟨fun k=>[].contains k,callsL [(125,f125_sp)],fun X k s K=>none⟩
theorem f74_ok:OK (8) 74 (f74_s.sp f74_m):=
 fnOK (d:=7) (env:=f74_e) (callsL_sim (cc f125_ok cn)) (fn:=Tryz.f74) (locs:=[]) (sh:= .any) (fz:=false) (by kernel_rfl) (fun hc=>(lp_of (by kernel_rfl) lp_nil)) (mc:=fun X a K=>f74_c a K) (fun _ _ _=>by kernel_rfl) (by intros;simp only [f74_m,f74_c,n1,n2,n3,n4,n5,n6,n7,n8]) (fun _=>rfl)
def f34_s:FS (TGraph×TMods) (Bool) where
 sk:=⟨(.cons (.agg (.cons (.lit cInstr) (.cons (.int .i64) (.cons (.int .i64) (.cons (.int .i64) (.cons (.lit cArray) (.cons (.lit cScalar) (.cons (.lit cArray) (.cons (.lit cItv) .nil))))))))) (.cons (.agg (.cons .bool (.cons (.lit cCongr) (.cons (.lit cCongr) .nil)))) .nil)),[],0⟩
 a:=fun u=>((u.1.1.1,(u.1.1.2.1,(u.1.1.2.2.1,(u.1.1.2.2.2.1,(u.1.1.2.2.2.2.1,(u.1.1.2.2.2.2.2.1,(u.1.1.2.2.2.2.2.2.1,u.1.1.2.2.2.2.2.2.2.1))))))),(u.1.2.1.1,(u.1.2.1.2.1,u.1.2.1.2.2.1)))
 n:=fun a=>(((a.1.1,(a.1.2.1,(a.1.2.2.1,(a.1.2.2.2.1,(a.1.2.2.2.2.1,(a.1.2.2.2.2.2.1,(a.1.2.2.2.2.2.2.1,(a.1.2.2.2.2.2.2.2,())))))))),((a.2.1,(a.2.2.1,(a.2.2.2,()))),())),())
 o:=fun Z a r K=>K (.bool r) ⟨[],0⟩
def f34_c {X:Type} (a:TGraph×TMods) (K:Bool→Option X):Option X:=
 cond (!a.2.1)
 (cond (decide ((nt (List.length a.2.2.1))=(0:Int)))
 (K (decide ((nt (List.length a.2.2.2))=(0:Int))))
 (K false))
 (cond (decide ((nt (List.length a.2.2.1))=(nt (List.length a.1.2.2.2.2.2.1))))
 (cond (decide ((nt (List.length a.2.2.2))=(nt (List.length a.1.2.2.2.2.2.2.1))))
 ((f74_m a.2.2.1).bind fun r1=>
 cond (!r1)
 ((f74_m a.2.2.2).bind fun r2=>
 K (!r2))
 (K false))
 (K false))
 (K false))
def f34_m (a:TGraph×TMods):Option (Bool):=f34_c a some
def f34_sp:Spec:=f34_s.sp f34_m
noncomputable def f34_e:Env:=⟨fun k=>[].contains k,callsL [(74,f74_sp)],fun X k s K=>none⟩
theorem f34_ok:OK (9) 34 (f34_s.sp f34_m):=
 fnOK (d:=8) (env:=f34_e) (callsL_sim (cc f74_ok cn)) (fn:=Tryz.f34) (locs:=[2,3]) (sh:= .any) (fz:=false) (by kernel_rfl) (fun hc=>(lp_of (by kernel_rfl) lp_nil)) (mc:=fun X a K=>f34_c a K) (fun _ _ _=>by kernel_rfl) (by intros;simp only [f34_m,f34_c,n1,n2,n3,n4,n5,n6,n7,n8]) (fun _=>rfl)
def f82_s:FS (TCongr) (Bool) where
 sk:=⟨(.cons (.agg (.cons .bool (.cons (.int .i64) (.cons (.int .i64) .nil)))) .nil),[],0⟩
 a:=fun u=>(u.1.1.1,(u.1.1.2.1,u.1.1.2.2.1))
 n:=fun a=>(((a.1,(a.2.1,(a.2.2,()))),()),())
 o:=fun Z a r K=>K (.bool r) ⟨[],0⟩
def f82_c {X:Type} (a:TCongr) (K:Bool→Option X):Option X:=
 cond a.1
 (cond (decide (a.2.1=(0:Int)))
 (K (decide (a.2.2=(0:Int))))
 (K false))
 (cond (decide ((0:Int)≤a.2.1))
 ((f71_m (a.2.1,a.2.2)).bind fun r1=>
 K ((a.1==r1.1)&&((decide (a.2.1=r1.2.1))&&((decide (a.2.2=r1.2.2))&&true))))
 (K false))
def f82_m (a:TCongr):Option (Bool):=f82_c a some
def f82_sp:Spec:=f82_s.sp f82_m
noncomputable def f82_e:Env:=⟨fun k=>[].contains k,callsL [(71,f71_sp)],fun X k s K=>none⟩
theorem f82_ok:OK (4) 82 (f82_s.sp f82_m):=
 fnOK (d:=3) (env:=f82_e) (callsL_sim (cc f71_ok cn)) (fn:=Tryz.f82) (locs:=[1]) (sh:= .any) (fz:=false) (by kernel_rfl) (fun hc=>(lp_of (by kernel_rfl) lp_nil)) (mc:=fun X a K=>f82_c a K) (fun _ _ _=>by kernel_rfl) (by intros;simp only [f82_m,f82_c,n1,n2,n3,n4,n5,n6,n7,n8]) (fun _=>rfl)
def f44_s:FS ((List TCongr)×Int) (Bool) where
 sk:=⟨(.cons (.lit cCongr) (.cons (.int .i64) .nil)),[],0⟩
 a:=fun u=>(u.1.1,u.1.2.1)
 n:=fun a=>((a.1,(a.2,())),())
 o:=fun Z a r K=>K (.bool r) ⟨[],0⟩
def f44_l4:LD (((List TCongr)×Int)) (Int) ((Unit) ⊕ (Unit)) where
 sk:=⟨[(0,.v (.lit cCongr)),(1,.v (.int .i64)),(5,.v (.int .i64))],[],[],0,0⟩
 p:=fun u=>(u.1.1,u.1.2.1)
 t:=fun u=>u.1.2.2.1
 n:=fun p t=>((p.1,(p.2,(t,()))),((),()))
 st:=fun Y p t ki ke=>cond (decide (t<p.2))
  (ask (V.inRange t (List.length p.1)) (cond (gx p.1 (Int.toNat t) dCongr).1
  (ke (.inl ()))
  (ask (V.inRange t (List.length p.1)) ((f82_m (gx p.1 (Int.toNat t) dCongr)).bind fun r1=>
  cond (!r1)
  (ke (.inl ()))
  (ki ((wi64 (t+(1:Int)))))))))
  (ke (.inr (())))
 o:=fun Z p e K=>Sum.elim (fun e=>K .ret ⟨[(4,.v (.bool false))],[],⟨[],0⟩,0⟩) (fun e=>K (.exit 0) ⟨[],[],⟨[],0⟩,0⟩) e
 pol:=⟨[0,1,5],[],[],[]⟩
 pe:=[(.ret,⟨[4],[],[],[]⟩),(.exit 0,⟨[],[],[],[]⟩)]
def f44_c {X:Type} (a:(List TCongr)×Int) (K:Bool→Option X):Option X:=
 cond (!(decide ((nt (List.length a.1))=a.2)))
 (K false)
 ((loopAll (f44_l4.m a) 0).bind fun e1=>
 Sum.elim (fun e2=>K false)
 (fun e3=>K true) e1)
def f44_m (a:(List TCongr)×Int):Option (Bool):=f44_c a some
def f44_sp:Spec:=f44_s.sp f44_m
noncomputable def f44_e:Env:=⟨fun k=>[].contains k,callsL [(82,f82_sp)],fun X k s K=>if k=4 then f44_l4.q X s K else none⟩
noncomputable def f44_l4_c:Code:=subAt [1,1,0,1,0,0] (bodyOf Tryz.f44)
theorem f44_l4_ok {C:V.Callee} (hc:SimCall C f44_e.call):LoopSim f44_e.loop (vc par C true [] 28) (.loop f44_l4_c):=
 loop_form glob_ok hc (lp_of (by kernel_rfl) lp_nil) f44_l4 (by kernel_rfl) (by intros;simp only [f44_l4,LD.m,n1,n2,n3,n4,n5,n6,n7,n8]) (fun _ _=>by kernel_rfl) (fun _=>rfl) (fun _ _ e _=>by rcases e with e|e<;>rfl) (fun _ _ _=>by kernel_rfl)
theorem f44_ok:OK (5) 44 (f44_s.sp f44_m):=
 fnOK (d:=4) (env:=f44_e) (callsL_sim (cc f82_ok cn)) (fn:=Tryz.f44) (locs:=[]) (sh:= .any) (fz:=false) (by kernel_rfl) (fun hc=>(lp_of (by kernel_rfl) (lp_cons (f44_l4_ok hc) lp_nil))) (mc:=fun X a K=>f44_c a K) (fun _ _ _=>by kernel_rfl) (by intros;simp only [f44_m,f44_c,n1,n2,n3,n4,n5,n6,n7,n8]) (fun _=>rfl)
def f11_s:FS (TGraph×TMods) (Bool) where
 sk:=⟨(.cons (.agg (.cons (.lit cInstr) (.cons (.int .i64) (.cons (.int .i64) (.cons (.int .i64) (.cons (.lit cArray) (.cons (.lit cScalar) (.cons (.lit cArray) (.cons (.lit cItv) .nil))))))))) (.cons (.agg (.cons .bool (.cons (.lit cCongr) (.cons (.lit cCongr) .nil)))) .nil)),[],0⟩
 a:=fun u=>((u.1.1.1,(u.1.1.2.1,(u.1.1.2.2.1,(u.1.1.2.2.2.1,(u.1.1.2.2.2.2.1,(u.1.1.2.2.2.2.2.1,(u.1.1.2.2.2.2.2.2.1,u.1.1.2.2.2.2.2.2.2.1))))))),(u.1.2.1.1,(u.1.2.1.2.1,u.1.2.1.2.2.1)))
 n:=fun a=>(((a.1.1,(a.1.2.1,(a.1.2.2.1,(a.1.2.2.2.1,(a.1.2.2.2.2.1,(a.1.2.2.2.2.2.1,(a.1.2.2.2.2.2.2.1,(a.1.2.2.2.2.2.2.2,())))))))),((a.2.1,(a.2.2.1,(a.2.2.2,()))),())),())
 o:=fun Z a r K=>K (.bool r) ⟨[],0⟩
def f11_c {X:Type} (a:TGraph×TMods) (K:Bool→Option X):Option X:=
 cond (!a.2.1)
 (cond (decide ((nt (List.length a.2.2.1))=(0:Int)))
 (K (decide ((nt (List.length a.2.2.2))=(0:Int))))
 (K false))
 ((f44_m (a.2.2.1,(nt (List.length a.1.2.2.2.2.2.1)))).bind fun r1=>
 cond r1
 ((f44_m (a.2.2.2,(nt (List.length a.1.2.2.2.2.2.2.1)))).bind fun r2=>
 K r2)
 (K false))
def f11_m (a:TGraph×TMods):Option (Bool):=f11_c a some
def f11_sp:Spec:=f11_s.sp f11_m
noncomputable def f11_e:Env:=⟨fun k=>[].contains k,callsL [(44,f44_sp)],fun X k s K=>none⟩
theorem f11_ok:OK (6) 11 (f11_s.sp f11_m):=
 fnOK (d:=5) (env:=f11_e) (callsL_sim (cc f44_ok cn)) (fn:=Tryz.f11) (locs:=[2,3]) (sh:= .any) (fz:=false) (by kernel_rfl) (fun hc=>(lp_of (by kernel_rfl) lp_nil)) (mc:=fun X a K=>f11_c a K) (fun _ _ _=>by kernel_rfl) (by intros;simp only [f11_m,f11_c,n1,n2,n3,n4,n5,n6,n7,n8]) (fun _=>rfl)
def f125v1_s:FS (Unit) (Int) where
 sk:=⟨(.cons .nils (.cons (.fn 72 .nil) .nil)),[],0⟩
 a:=fun u=>()
 n:=fun a=>(((),((),())),())
 o:=fun Z a r K=>K (.int .i64 r) ⟨[],0⟩
def f125v1_l2:LD ((List TCongr)×Int) (Int) ((Int) ⊕ (Unit)) where
 sk:=⟨[(0,.v (.lit cCongr)),(1,.v (.fn 72 .nil)),(7,.v (.int .i64)),(8,.v (.int .i64))],[],[],0,0⟩
 p:=fun u=>(u.1.1,u.1.2.2.1)
 t:=fun u=>u.1.2.2.2.1
 n:=fun p t=>((p.1,((),(p.2,(t,())))),((),()))
 st:=fun Y p t ki ke=>cond (decide (t<p.2))
  (ask (V.inRange t (List.length p.1)) ((f72_m (gx p.1 (Int.toNat t) dCongr)).bind fun r1=>
  cond r1
  (ke (.inl (t)))
  (ki ((wi64 (t+(1:Int)))))))
  (ke (.inr (())))
 o:=fun Z p e K=>Sum.elim (fun e=>K .ret ⟨[(4,.v (.int .i64 e))],[],⟨[],0⟩,0⟩) (fun e=>K (.exit 0) ⟨[],[],⟨[],0⟩,0⟩) e
 pol:=⟨[0,1,7,8],[(0,(.lit cCongr))],[],[]⟩
 pe:=[(.ret,⟨[4],[],[],[]⟩),(.exit 0,⟨[],[],[],[]⟩)]
def f125v1_c {X:Type} (a:Unit) (K:Int→Option X):Option X:=
 (loopAll (f125v1_l2.m ([],0)) 0).bind fun e1=>
 Sum.elim (fun e2=>K e2)
 (fun e3=>K (-1)) e1
def f125v1_m (a:Unit):Option (Int):=f125v1_c a some
def f125v1_sp:Spec:=f125v1_s.sp f125v1_m
noncomputable def f125v1_e:Env:=⟨fun k=>[].contains k,callsL [(72,f72_sp)],fun X k s K=>if k=2 then f125v1_l2.q X s K else none⟩
noncomputable def f125v1_l2_c:Code:=subAt [1,0,1,0,0] (bodyOf Tryz.f125)
theorem f125v1_l2_ok {C:V.Callee} (hc:SimCall C f125v1_e.call):LoopSim f125v1_e.loop (vc par C true [] 19) (.loop f125v1_l2_c):=
 loop_form glob_ok hc (lp_of (by kernel_rfl) lp_nil) f125v1_l2 (by kernel_rfl) (by intros;simp only [f125v1_l2,LD.m,n1,n2,n3,n4,n5,n6,n7,n8]) (fun _ _=>by kernel_rfl) (fun _=>rfl) (fun _ _ e _=>by rcases e with e|e<;>rfl) (fun _ _ _=>by kernel_rfl)
theorem f125v1_ok:OK (7) 125 (f125v1_s.sp f125v1_m):=
 fnOK (d:=6) (env:=f125v1_e) (callsL_sim (cc f72_ok cn)) (fn:=Tryz.f125) (locs:=[]) (sh:= .any) (fz:=false) (by kernel_rfl) (fun hc=>(lp_of (by kernel_rfl) (lp_cons (f125v1_l2_ok hc) lp_nil))) (mc:=fun X a K=>f125v1_c a K) (fun _ _ _=>by kernel_rfl) (by intros;simp only [f125v1_m,f125v1_c,n1,n2,n3,n4,n5,n6,n7,n8]) (fun _=>rfl)
def f74v1_s:FS (Unit) (Bool) where
 sk:=⟨(.cons .nils (.cons (.fn 72 .nil) .nil)),[],0⟩
 a:=fun u=>()
 n:=fun a=>(((),((),())),())
 o:=fun Z a r K=>K (.bool r) ⟨[],0⟩
def f74v1_c {X:Type} (a:Unit) (K:Bool→Option X):Option X:=
 (f125v1_m ()).bind fun r1=>
 K (decide ((0:Int)≤r1))
def f74v1_m (a:Unit):Option (Bool):=f74v1_c a some
def f74v1_sp:Spec:=f74v1_s.sp f74v1_m
noncomputable def f74v1_e:Env:=⟨fun k=>[].contains k,callsL [(125,f125v1_sp)],fun X k s K=>none⟩
theorem f74v1_ok:OK (8) 74 (f74v1_s.sp f74v1_m):=
 fnOK (d:=7) (env:=f74v1_e) (callsL_sim (cc f125v1_ok cn)) (fn:=Tryz.f74) (locs:=[]) (sh:= .any) (fz:=false) (by kernel_rfl) (fun hc=>(lp_of (by kernel_rfl) lp_nil)) (mc:=fun X a K=>f74v1_c a K) (fun _ _ _=>by kernel_rfl) (by intros;simp only [f74v1_m,f74v1_c,n1,n2,n3,n4,n5,n6,n7,n8]) (fun _=>rfl)
def f34v1_s:FS (TGraph×Bool) (Bool) where
 sk:=⟨(.cons (.agg (.cons (.lit cInstr) (.cons (.int .i64) (.cons (.int .i64) (.cons (.int .i64) (.cons (.lit cArray) (.cons (.lit cScalar) (.cons (.lit cArray) (.cons (.lit cItv) .nil))))))))) (.cons (.agg (.cons .bool (.cons .nils (.cons .nils .nil)))) .nil)),[],0⟩
 a:=fun u=>((u.1.1.1,(u.1.1.2.1,(u.1.1.2.2.1,(u.1.1.2.2.2.1,(u.1.1.2.2.2.2.1,(u.1.1.2.2.2.2.2.1,(u.1.1.2.2.2.2.2.2.1,u.1.1.2.2.2.2.2.2.2.1))))))),u.1.2.1.1)
 n:=fun a=>(((a.1.1,(a.1.2.1,(a.1.2.2.1,(a.1.2.2.2.1,(a.1.2.2.2.2.1,(a.1.2.2.2.2.2.1,(a.1.2.2.2.2.2.2.1,(a.1.2.2.2.2.2.2.2,())))))))),((a.2,((),((),()))),())),())
 o:=fun Z a r K=>K (.bool r) ⟨[],0⟩
def f34v1_c {X:Type} (a:TGraph×Bool) (K:Bool→Option X):Option X:=
 cond (!a.2)
 (K true)
 (cond (decide ((0:Int)=(nt (List.length a.1.2.2.2.2.2.1))))
 (cond (decide ((0:Int)=(nt (List.length a.1.2.2.2.2.2.2.1))))
 ((f74v1_m ()).bind fun r1=>
 cond (!r1)
 ((f74v1_m ()).bind fun r2=>
 K (!r2))
 (K false))
 (K false))
 (K false))
def f34v1_m (a:TGraph×Bool):Option (Bool):=f34v1_c a some
def f34v1_sp:Spec:=f34v1_s.sp f34v1_m
noncomputable def f34v1_e:Env:=⟨fun k=>[].contains k,callsL [(74,f74v1_sp)],fun X k s K=>none⟩
theorem f34v1_ok:OK (9) 34 (f34v1_s.sp f34v1_m):=
 fnOK (d:=8) (env:=f34v1_e) (callsL_sim (cc f74v1_ok cn)) (fn:=Tryz.f34) (locs:=[2,3]) (sh:= .any) (fz:=false) (by kernel_rfl) (fun hc=>(lp_of (by kernel_rfl) lp_nil)) (mc:=fun X a K=>f34v1_c a K) (fun _ _ _=>by kernel_rfl) (by intros;simp only [f34v1_m,f34v1_c,n1,n2,n3,n4,n5,n6,n7,n8]) (fun _=>rfl)
def f15_s:FS (TMods) (Unit) where
 sk:=⟨(.cons (.agg (.cons .bool (.cons (.lit cCongr) (.cons (.lit cCongr) .nil)))) .nil),[],0⟩
 a:=fun u=>(u.1.1.1,(u.1.1.2.1,u.1.1.2.2.1))
 n:=fun a=>(((a.1,(a.2.1,(a.2.2,()))),()),())
 o:=fun Z a r K=>K (.agg [.bool a.1,.all 0,.all 1]) ⟨[.cells cCongr a.2.1,.cells cCongr a.2.2],0⟩
def f15_c {X:Type} (a:TMods) (K:Unit→Option X):Option X:=
 ask (decide ((List.length a.2.1) * 24≤70368744177664)&&decide ((List.length a.2.1)<9223372036854775808)) (ask (decide ((List.length a.2.2) * 24≤70368744177664)&&decide ((List.length a.2.2)<9223372036854775808)) (K ()))
def f15_m (a:TMods):Option (Unit):=f15_c a some
def f15_sp:Spec:=f15_s.sp f15_m
noncomputable def f15_e:Env:=⟨fun k=>[].contains k,callsL [],fun X k s K=>none⟩
theorem f15_ok:OK (1) 15 (f15_s.sp f15_m):=
 fnOK (d:=0) (env:=f15_e) (callsL_sim cn) (fn:=Tryz.f15) (locs:=[1,2,3]) (sh:=(.agg [.any,(.own cCongr),(.own cCongr)])) (fz:=false) (by kernel_rfl) (fun hc=>(lp_of (by kernel_rfl) lp_nil)) (mc:=fun X a K=>f15_c a K) (fun _ _ _=>by kernel_rfl) (by intros;simp only [f15_m,f15_c,n1,n2,n3,n4,n5,n6,n7,n8]) (fun _=>rfl)
def f49v1_s:FS (Bool×(List TCongr)×(List TCongr)) (Unit) where
 sk:=⟨(.cons (.agg (.cons .bool (.cons (.all 0) (.cons (.all 1) .nil)))) .nil),[.cells cCongr,.cells cCongr],0⟩
 a:=fun u=>(u.1.1.1,u.2.1,u.2.2.1)
 n:=fun a=>(((a.1,((),((),()))),()),(a.2.1,(a.2.2,())))
 o:=fun Z a r K=>K (.agg [.bool a.1,.all 2,.all 3]) ⟨[.cells cCongr a.2.1,.cells cCongr a.2.2,.cells cCongr a.2.1,.cells cCongr a.2.2],0⟩
def f49v1_c {X:Type} (a:Bool×(List TCongr)×(List TCongr)) (K:Unit→Option X):Option X:=
 ask (decide ((List.length a.2.1) * 24≤70368744177664)&&decide ((List.length a.2.1)<9223372036854775808)) (ask (decide ((List.length a.2.2) * 24≤70368744177664)&&decide ((List.length a.2.2)<9223372036854775808)) (K ()))
def f49v1_m (a:Bool×(List TCongr)×(List TCongr)):Option (Unit):=f49v1_c a some
def f49v1_sp:Spec:=f49v1_s.sp f49v1_m
noncomputable def f49v1_e:Env:=⟨fun k=>[].contains k,callsL [],fun X k s K=>none⟩
theorem f49v1_ok:OK (1) 49 (f49v1_s.sp f49v1_m):=
 fnOK (d:=0) (env:=f49v1_e) (callsL_sim cn) (fn:=Tryz.f49) (locs:=[1,2]) (sh:=(.agg [.any,(.own cCongr),(.own cCongr)])) (fz:=false) (by kernel_rfl) (fun hc=>(lp_of (by kernel_rfl) lp_nil)) (mc:=fun X a K=>f49v1_c a K) (fun _ _ _=>by kernel_rfl) (by intros;simp only [f49v1_m,f49v1_c,n1,n2,n3,n4,n5,n6,n7,n8]) (fun _=>rfl)
def f63v2_s:FS (Bool×Bool×(List TCongr)×(List TCongr)×(List TCongr)×(List TCongr)) (Unit) where
 sk:=⟨(.cons (.ptr 0 0) (.cons (.agg (.cons .bool (.cons (.all 3) (.cons (.all 4) .nil)))) .nil)),[.opn (.cons .bool (.cons (.all 1) (.cons (.all 2) .nil))),.cells cCongr,.cells cCongr,.cells cCongr,.cells cCongr],0⟩
 a:=fun u=>(u.1.2.1.1,u.2.1.1,u.2.2.1,u.2.2.2.1,u.2.2.2.2.1,u.2.2.2.2.2.1)
 n:=fun a=>(((),((a.1,((),((),()))),())),((a.2.1,((),((),()))),(a.2.2.1,(a.2.2.2.1,(a.2.2.2.2.1,(a.2.2.2.2.2,()))))))
 o:=fun Z a r K=>K (.fn 116 [.ptr 5 0,.ptr 6 0]) ⟨[.opn [.bool a.2.1,.all 1,.all 2],.cells cCongr a.2.2.1,.cells cCongr a.2.2.2.1,.cells cCongr a.2.2.2.2.1,.cells cCongr a.2.2.2.2.2,.opn [.ptr 0 0],.opn [.bool a.1,.all 3,.all 4]],0⟩
def f63v2_c {X:Type} (a:Bool×Bool×(List TCongr)×(List TCongr)×(List TCongr)×(List TCongr)) (K:Unit→Option X):Option X:=
 K ()
def f63v2_m (a:Bool×Bool×(List TCongr)×(List TCongr)×(List TCongr)×(List TCongr)):Option (Unit):=f63v2_c a some
def f63v2_sp:Spec:=f63v2_s.sp f63v2_m
noncomputable def f63v2_e:Env:=⟨fun k=>[].contains k,callsL [],fun X k s K=>none⟩
theorem f63v2_ok:OK (1) 63 (f63v2_s.sp f63v2_m):=
 fnOK (d:=0) (env:=f63v2_e) (callsL_sim cn) (fn:=Tryz.f63) (locs:=[]) (sh:= .any) (fz:=false) (by kernel_rfl) (fun hc=>(lp_of (by kernel_rfl) lp_nil)) (mc:=fun X a K=>f63v2_c a K) (fun _ _ _=>by kernel_rfl) (by intros;simp only [f63v2_m,f63v2_c,n1,n2,n3,n4,n5,n6,n7,n8]) (fun _=>rfl)
def f116v2_s:FS (Bool×(List TCongr)×(List TCongr)×Bool×(List TCongr)×(List TCongr)) ((List TCongr)×(List TCongr)) where
 sk:=⟨(.cons (.yl 7) (.cons (.ptr 0 0) (.cons (.ptr 4 0) .nil))),[.opn (.cons (.ptr 1 0) .nil),.opn (.cons .bool (.cons (.all 2) (.cons (.all 3) .nil))),.cells cCongr,.cells cCongr,.opn (.cons .bool (.cons (.all 5) (.cons (.all 6) .nil))),.cells cCongr,.cells cCongr,.loop 260009 [] .ready .normal],0⟩
 a:=fun u=>(u.2.2.1.1,u.2.2.2.1,u.2.2.2.2.1,u.2.2.2.2.2.1.1,u.2.2.2.2.2.2.1,u.2.2.2.2.2.2.2.1)
 n:=fun a=>(((),((),((),()))),(((),()),((a.1,((),((),()))),(a.2.1,(a.2.2.1,((a.2.2.2.1,((),((),()))),(a.2.2.2.2.1,(a.2.2.2.2.2,((),())))))))))
 o:=fun Z a r K=>K (.tup []) ⟨[.opn [.ptr 1 0],.opn [.bool a.1,.all 2,.all 3],.cells cCongr r.1,.cells cCongr r.2,.opn [.bool a.2.2.2.1,.all 5,.all 6],.cells cCongr a.2.2.2.2.1,.cells cCongr a.2.2.2.2.2,.loop 260009 [] .ready .normal],0⟩
def f116v2_l1:LD (Int×Bool×((List TCongr)×TMods)) (Int×(List TCongr)) ((List TCongr)) where
 sk:=⟨[(0,.v (.yl 7)),(1,.v (.ptr 0 0)),(2,.v (.ptr 4 0)),(10,.v (.int .i64)),(11,.v (.int .i64))],[],[.opn (.cons (.ptr 1 0) .nil),.opn (.cons .bool (.cons (.all 2) (.cons (.all 3) .nil))),.cells cCongr,.cells cCongr,.opn (.cons .bool (.cons (.all 5) (.cons (.all 6) .nil))),.cells cCongr,.cells cCongr,.loop 260009 [] .ready .normal],0,8⟩
 p:=fun u=>(u.1.2.2.2.1,u.2.2.2.1.1,(u.2.2.2.2.2.1,(u.2.2.2.2.2.2.1.1,(u.2.2.2.2.2.2.2.1,u.2.2.2.2.2.2.2.2.1))))
 t:=fun u=>(u.1.2.2.2.2.1,u.2.2.2.2.1)
 n:=fun p t=>(((),((),((),(p.1,(t.1,()))))),((),(((),()),((p.2.1,((),((),()))),(t.2,(p.2.2.1,((p.2.2.2.1,((),((),()))),(p.2.2.2.2.1,(p.2.2.2.2.2,((),()))))))))))
 st:=fun Y p t ki ke=>cond (decide (t.1<p.1))
  (ask (V.inRange t.1 (List.length t.2)) (ask (V.inRange t.1 (List.length p.2.2.2.2.1)) ((y260009_m ((Int.toNat t.1),(gx p.2.2.2.2.1 (Int.toNat t.1) dCongr),t.2)).bind fun r1=>
  ki ((wi64 (t.1+(1:Int))),r1))))
  (ke (t.2))
 o:=fun Z p e K=>K (.exit 0) ⟨[(0,.v (.yl 7)),(1,.v (.ptr 0 0)),(2,.v (.ptr 4 0))],[],⟨[.opn [.ptr 1 0],.opn [.bool p.2.1,.all 2,.all 3],.cells cCongr e,.cells cCongr p.2.2.1,.opn [.bool p.2.2.2.1,.all 5,.all 6],.cells cCongr p.2.2.2.2.1,.cells cCongr p.2.2.2.2.2,.loop 260009 [] .ready .normal],0⟩,8⟩
 pol:=⟨[0,1,2,10,11],[],[],[]⟩
 pe:=[(.exit 0,⟨[0,1,2],[],[],[]⟩)]
def f116v2_l6:LD (Int×Bool×(List TCongr)×TMods) (Int×(List TCongr)) ((List TCongr)) where
 sk:=⟨[(0,.v (.yl 7)),(1,.v (.ptr 0 0)),(2,.v (.ptr 4 0)),(33,.v (.int .i64)),(34,.v (.int .i64))],[],[.opn (.cons (.ptr 1 0) .nil),.opn (.cons .bool (.cons (.all 2) (.cons (.all 3) .nil))),.cells cCongr,.cells cCongr,.opn (.cons .bool (.cons (.all 5) (.cons (.all 6) .nil))),.cells cCongr,.cells cCongr,.loop 260009 [] .ready .normal],0,8⟩
 p:=fun u=>(u.1.2.2.2.1,u.2.2.2.1.1,u.2.2.2.2.1,(u.2.2.2.2.2.2.1.1,(u.2.2.2.2.2.2.2.1,u.2.2.2.2.2.2.2.2.1)))
 t:=fun u=>(u.1.2.2.2.2.1,u.2.2.2.2.2.1)
 n:=fun p t=>(((),((),((),(p.1,(t.1,()))))),((),(((),()),((p.2.1,((),((),()))),(p.2.2.1,(t.2,((p.2.2.2.1,((),((),()))),(p.2.2.2.2.1,(p.2.2.2.2.2,((),()))))))))))
 st:=fun Y p t ki ke=>cond (decide (t.1<p.1))
  (ask (V.inRange t.1 (List.length t.2)) (ask (V.inRange t.1 (List.length p.2.2.2.2.2)) ((y260009_m ((Int.toNat t.1),(gx p.2.2.2.2.2 (Int.toNat t.1) dCongr),t.2)).bind fun r1=>
  ki ((wi64 (t.1+(1:Int))),r1))))
  (ke (t.2))
 o:=fun Z p e K=>K (.exit 2) ⟨[],[],⟨[.opn [.ptr 1 0],.opn [.bool p.2.1,.all 2,.all 3],.cells cCongr p.2.2.1,.cells cCongr e,.opn [.bool p.2.2.2.1,.all 5,.all 6],.cells cCongr p.2.2.2.2.1,.cells cCongr p.2.2.2.2.2,.loop 260009 [] .ready .normal],0⟩,8⟩
 pol:=⟨[0,1,2,33,34],[],[],[]⟩
 pe:=[(.exit 2,⟨[],[],[],[]⟩)]
def f116v2_c {X:Type} (a:Bool×(List TCongr)×(List TCongr)×Bool×(List TCongr)×(List TCongr)) (K:(List TCongr)×(List TCongr)→Option X):Option X:=
 (loopAll (f116v2_l1.m ((nt (List.length a.2.1)),a.1,a.2.2)) (0,a.2.1)).bind fun e1=>
 (loopAll (f116v2_l6.m ((nt (List.length a.2.2.1)),a.1,e1,a.2.2.2)) (0,a.2.2.1)).bind fun e2=>
 K (e1,e2)
def f116v2_m (a:Bool×(List TCongr)×(List TCongr)×Bool×(List TCongr)×(List TCongr)):Option ((List TCongr)×(List TCongr)):=f116v2_c a some
def f116v2_sp:Spec:=f116v2_s.sp f116v2_m
noncomputable def f116v2_e:Env:=⟨fun k=>[].contains k,callsYL [] [(260009,y260009_sp)],fun X k s K=>if k=1 then f116v2_l1.q X s K else if k=6 then f116v2_l6.q X s K else none⟩
noncomputable def f116v2_l1_c:Code:=subAt [0,1,0,0] (bodyOf Tryz.f116)
theorem f116v2_l1_ok {C:V.Callee} (hc:SimCall C f116v2_e.call):LoopSim f116v2_e.loop (vc par C true [] 52) (.loop f116v2_l1_c):=
 loop_form glob_ok hc (lp_of (by kernel_rfl) lp_nil) f116v2_l1 (by kernel_rfl) (by intros;simp only [f116v2_l1,LD.m,n1,n2,n3,n4,n5,n6,n7,n8]) (fun _ _=>by kernel_rfl) (fun _=>rfl) (fun _ _ _ _=>rfl) (fun _ _ _=>by kernel_rfl)
noncomputable def f116v2_l6_c:Code:=subAt [1,1,0,0] (bodyOf Tryz.f116)
theorem f116v2_l6_ok {C:V.Callee} (hc:SimCall C f116v2_e.call):LoopSim f116v2_e.loop (vc par C true [] 52) (.loop f116v2_l6_c):=
 loop_form glob_ok hc (lp_of (by kernel_rfl) lp_nil) f116v2_l6 (by kernel_rfl) (by intros;simp only [f116v2_l6,LD.m,n1,n2,n3,n4,n5,n6,n7,n8]) (fun _ _=>by kernel_rfl) (fun _=>rfl) (fun _ _ _ _=>rfl) (fun _ _ _=>by kernel_rfl)
theorem f116v2_ok:OK (7) 116 (f116v2_s.sp f116v2_m):=
 fnOK (d:=6) (env:=f116v2_e) (callsYL_sim cn (ccy y260009_ok cyn)) (fn:=Tryz.f116) (locs:=[]) (sh:= .any) (fz:=false) (by kernel_rfl) (fun hc=>(lp_of (by kernel_rfl) (lp_cons (f116v2_l1_ok hc) (lp_cons (f116v2_l6_ok hc) lp_nil)))) (mc:=fun X a K=>f116v2_c a K) (fun _ _ _=>by kernel_rfl) (by intros;simp only [f116v2_m,f116v2_c,n1,n2,n3,n4,n5,n6,n7,n8]) (fun _=>rfl)
end
end Go.U
end
