/- The functions of the program as Lean functions, and that the evaluator says so. -/
import Derived.Test.YtcbcifeaalkdfaaGreatDoorC5
set_option linter.unusedVariables false
set_option linter.unusedSimpArgs false
set_option linter.unusedSectionVars false
section
set_option maxRecDepth 100000
namespace Go.U
open Go Go.Proofs
noncomputable section
def f111_s:FS (Int) (Int) where
 sk:=⟨(.cons (.int .i64) .nil),[],0⟩
 a:=fun u=>u.1.1
 n:=fun a=>((a,()),())
 o:=fun Z a r K=>K (.int .u64 r) ⟨[],0⟩
def f111_c {X:Type} (a:Int) (K:Int→Option X):Option X:=
 cond (decide (a<(0:Int)))
 (K (wu64 ((wu64 (wi64 ((0:Int)-(wi64 (a+(1:Int))))))+(1:Int))))
 (K (wu64 a))
def f111_m (a:Int):Option (Int):=f111_c a some
def f111_sp:Spec:=f111_s.sp f111_m
noncomputable def f111_e:Env:=⟨fun k=>[].contains k,callsL [],fun X k s K=>none⟩
theorem f111_ok:OK (1) 111 (f111_s.sp f111_m):=
 fnOK (d:=0) (env:=f111_e) (callsL_sim cn) (fn:=Tryz.f111) (locs:=[]) (sh:= .any) (fz:=false) (by kernel_rfl) (fun hc=>(lp_of (by kernel_rfl) lp_nil)) (mc:=fun X a K=>f111_c a K) (fun _ _ _=>by kernel_rfl) (by intros;simp only [f111_m,f111_c,n1,n2,n3,n4,n5,n6,n7,n8]) (fun _=>rfl)
def f105_s:FS (Unit) (Unit) where
 sk:=⟨.nil,[],0⟩
 a:=fun u=>()
 n:=fun a=>((),())
 o:=fun Z a r K=>K (.agg [.bool true,.int .i64 0,.int .i64 0]) ⟨[],0⟩
def f105_c {X:Type} (a:Unit) (K:Unit→Option X):Option X:=
 K ()
def f105_m (a:Unit):Option (Unit):=f105_c a some
def f105_sp:Spec:=f105_s.sp f105_m
noncomputable def f105_e:Env:=⟨fun k=>[].contains k,callsL [],fun X k s K=>none⟩
theorem f105_ok:OK (1) 105 (f105_s.sp f105_m):=
 fnOK (d:=0) (env:=f105_e) (callsL_sim cn) (fn:=Tryz.f105) (locs:=[0]) (sh:= .any) (fz:=false) (by kernel_rfl) (fun hc=>(lp_of (by kernel_rfl) lp_nil)) (mc:=fun X a K=>f105_c a K) (fun _ _ _=>by kernel_rfl) (by intros;simp only [f105_m,f105_c,n1,n2,n3,n4,n5,n6,n7,n8]) (fun _=>rfl)
def f123_s:FS (Int×Int×Bool) (TCongr) where
 sk:=⟨(.cons (.int .u64) (.cons (.int .u64) (.cons .bool .nil))),[],0⟩
 a:=fun u=>(u.1.1,u.1.2.1,u.1.2.2.1)
 n:=fun a=>((a.1,(a.2.1,(a.2.2,()))),())
 o:=fun Z a r K=>K (.agg [.bool r.1,.int .i64 r.2.1,.int .i64 r.2.2]) ⟨[],0⟩
def f123_r2:PD ((Int×Bool)×Bool×Int×Int) (Bool) where
 sk:=⟨[(1,.v (.int .u64)),(2,.v .bool),(6,.loc 0 0)],[(.cons .bool (.cons (.int .i64) (.cons (.int .i64) .nil)))],[],0,0⟩
 p:=fun u=>((u.1.1,u.1.2.1),u.2.1.1.1,u.2.1.1.2.1,u.2.1.1.2.2.1)
 n:=fun p=>((p.1.1,(p.1.2,())),(((p.2.1,(p.2.2.1,(p.2.2.2,()))),()),()))
 st:=fun Y p ke=>cond p.1.2
  (ke ((decide (p.1.1≤(2147483648:Int)))))
  (ke (false))
 o:=fun Z p e K=>K .normal ⟨[(1,.v (.int .u64 p.1.1)),(2,.v (.bool p.1.2)),(6,.loc 0 0),(14,.v (.bool e))],[[.bool p.2.1,.int .i64 p.2.2.1,.int .i64 p.2.2.2]],⟨[],0⟩,0⟩
 pol:=⟨[1,2,6],[],[],[]⟩
 pe:=[(.normal,⟨[1,2,6,14],[],[],[]⟩)]
def f123_r4:PD ((Int×Bool)×Bool×Int×Int) (Bool) where
 sk:=⟨[(1,.v (.int .u64)),(2,.v .bool),(6,.loc 0 0)],[(.cons .bool (.cons (.int .i64) (.cons (.int .i64) .nil)))],[],0,0⟩
 p:=fun u=>((u.1.1,u.1.2.1),u.2.1.1.1,u.2.1.1.2.1,u.2.1.1.2.2.1)
 n:=fun p=>((p.1.1,(p.1.2,())),(((p.2.1,(p.2.2.1,(p.2.2.2,()))),()),()))
 st:=fun Y p ke=>cond (!p.1.2)
  (ke ((decide (p.1.1≤(2147483647:Int)))))
  (ke (false))
 o:=fun Z p e K=>K .normal ⟨[(1,.v (.int .u64 p.1.1)),(6,.loc 0 0),(24,.v (.bool e))],[[.bool p.2.1,.int .i64 p.2.2.1,.int .i64 p.2.2.2]],⟨[],0⟩,0⟩
 pol:=⟨[1,2,6],[],[],[]⟩
 pe:=[(.normal,⟨[1,6,24],[],[],[]⟩)]
def f123_r8:PD (Int×Int×Bool×Bool×Int×Int) (Bool) where
 sk:=⟨[(0,.v (.int .u64)),(1,.v (.int .u64)),(2,.v .bool),(6,.loc 0 0)],[(.cons .bool (.cons (.int .i64) (.cons (.int .i64) .nil)))],[],0,0⟩
 p:=fun u=>(u.1.1,u.1.2.1,u.1.2.2.1,u.2.1.1.1,u.2.1.1.2.1,u.2.1.1.2.2.1)
 n:=fun p=>((p.1,(p.2.1,(p.2.2.1,()))),(((p.2.2.2.1,(p.2.2.2.2.1,(p.2.2.2.2.2,()))),()),()))
 st:=fun Y p ke=>cond p.2.2.1
  (ke ((!(decide (p.2.1=(0:Int))))))
  (ke (false))
 o:=fun Z p e K=>K .normal ⟨[(0,.v (.int .u64 p.1)),(1,.v (.int .u64 p.2.1)),(6,.loc 0 0),(36,.v (.bool e))],[[.bool p.2.2.2.1,.int .i64 p.2.2.2.2.1,.int .i64 p.2.2.2.2.2]],⟨[],0⟩,0⟩
 pol:=⟨[0,1,2,6],[],[],[]⟩
 pe:=[(.normal,⟨[0,1,6,36],[],[],[]⟩)]
def f123_c9:PD (Int×Int×Bool×Bool×Int×Int) (Int) where
 sk:=⟨[(0,.v (.int .u64)),(1,.v (.int .u64)),(6,.loc 0 0),(36,.v .bool)],[(.cons .bool (.cons (.int .i64) (.cons (.int .i64) .nil)))],[],0,0⟩
 p:=fun u=>(u.1.1,u.1.2.1,u.1.2.2.1,u.2.1.1.1,u.2.1.1.2.1,u.2.1.1.2.2.1)
 n:=fun p=>((p.1,(p.2.1,(p.2.2.1,()))),(((p.2.2.2.1,(p.2.2.2.2.1,(p.2.2.2.2.2,()))),()),()))
 st:=fun Y p ke=>cond p.2.2.1
  (ke ((wu64 (p.1-p.2.1))))
  (ke (p.2.1))
 o:=fun Z p e K=>K .normal ⟨[(0,.v (.int .u64 p.1)),(1,.v (.int .u64 e)),(6,.loc 0 0)],[[.bool p.2.2.2.1,.int .i64 p.2.2.2.2.1,.int .i64 p.2.2.2.2.2]],⟨[],0⟩,0⟩
 pol:=⟨[0,1,6,36],[],[],[]⟩
 pe:=[(.normal,⟨[0,1,6],[],[],[]⟩)]
def f123_c12:PD (Int×Int×Bool×Bool×Int×Int) ((List Int)) where
 sk:=⟨[(0,.v (.int .u64)),(1,.v (.int .u64)),(6,.loc 0 0),(7,.v .nils),(41,.v .bool)],[(.cons .bool (.cons (.int .i64) (.cons (.int .i64) .nil)))],[],0,0⟩
 p:=fun u=>(u.1.1,u.1.2.1,u.1.2.2.2.1,u.2.1.1.1,u.2.1.1.2.1,u.2.1.1.2.2.1)
 n:=fun p=>((p.1,(p.2.1,((),(p.2.2.1,())))),(((p.2.2.2.1,(p.2.2.2.2.1,(p.2.2.2.2.2,()))),()),()))
 st:=fun Y p ke=>cond p.2.2.1
  (ask (decide ((List.length ([(wi64 p.2.1)]:List Int)) * 8≤70368744177664)&&decide ((List.length ([(wi64 p.2.1)]:List Int))<9223372036854775808)) (ke (([(wi64 p.2.1)]:List Int))))
  (ke ([]))
 o:=fun Z p e K=>K .normal ⟨[(0,.v (.int .u64 p.1)),(1,.v (.int .u64 p.2.1)),(6,.loc 0 0),(7,.v (.all 0))],[[.bool p.2.2.2.1,.int .i64 p.2.2.2.2.1,.int .i64 p.2.2.2.2.2]],⟨[.cells (.int .i64) e],0⟩,0⟩
 pol:=⟨[0,1,6,7,41],[],[],[]⟩
 pe:=[(.normal,⟨[0,1,6,7],[(7,(.own (.int .i64)))],[],[]⟩)]
def f123_c14:PD (Int×Int×Bool×Bool×Int×Int×(List Int)) ((List Int)) where
 sk:=⟨[(0,.v (.int .u64)),(1,.v (.int .u64)),(6,.loc 0 0),(7,.v (.all 0)),(50,.v .bool)],[(.cons .bool (.cons (.int .i64) (.cons (.int .i64) .nil)))],[.cells (.int .i64)],0,0⟩
 p:=fun u=>(u.1.1,u.1.2.1,u.1.2.2.2.1,u.2.1.1.1,u.2.1.1.2.1,u.2.1.1.2.2.1,u.2.2.1)
 n:=fun p=>((p.1,(p.2.1,((),(p.2.2.1,())))),(((p.2.2.2.1,(p.2.2.2.2.1,(p.2.2.2.2.2.1,()))),()),(p.2.2.2.2.2.2,())))
 st:=fun Y p ke=>cond p.2.2.1
  (ask (decide (((List.length p.2.2.2.2.2.2)+(List.length ([(wi64 ((0:Int)-(wi64 (wu64 (p.1-p.2.1)))))]:List Int))) * 8≤70368744177664)&&decide (((List.length p.2.2.2.2.2.2)+(List.length ([(wi64 ((0:Int)-(wi64 (wu64 (p.1-p.2.1)))))]:List Int)))<9223372036854775808)) (ke ((p.2.2.2.2.2.2++([(wi64 ((0:Int)-(wi64 (wu64 (p.1-p.2.1)))))]:List Int)))))
  (ke (p.2.2.2.2.2.2))
 o:=fun Z p e K=>K .normal ⟨[(0,.v (.int .u64 p.1)),(1,.v (.int .u64 p.2.1)),(6,.loc 0 0),(7,.v (.all 0))],[[.bool p.2.2.2.1,.int .i64 p.2.2.2.2.1,.int .i64 p.2.2.2.2.2.1]],⟨[.cells (.int .i64) e],0⟩,0⟩
 pol:=⟨[0,1,6,7,50],[],[],[]⟩
 pe:=[(.normal,⟨[0,1,6,7],[],[],[]⟩)]
def f123_r15:PD (Int×Int×Bool×Int×Int×(List Int)) (Bool) where
 sk:=⟨[(0,.v (.int .u64)),(1,.v (.int .u64)),(6,.loc 0 0),(7,.v (.all 0))],[(.cons .bool (.cons (.int .i64) (.cons (.int .i64) .nil)))],[.cells (.int .i64)],0,0⟩
 p:=fun u=>(u.1.1,u.1.2.1,u.2.1.1.1,u.2.1.1.2.1,u.2.1.1.2.2.1,u.2.2.1)
 n:=fun p=>((p.1,(p.2.1,((),()))),(((p.2.2.1,(p.2.2.2.1,(p.2.2.2.2.1,()))),()),(p.2.2.2.2.2,())))
 st:=fun Y p ke=>cond (decide ((nt (List.length p.2.2.2.2.2))=(1:Int)))
  (ask (V.inRange 0 (List.length p.2.2.2.2.2)) (cond (decide ((0:Int)≤(gx p.2.2.2.2.2 0 (0:Int))))
  (ask (V.inRange 0 (List.length p.2.2.2.2.2)) (ke ((decide (p.1≤(wu64 ((2147483647:Int)-(wu64 (gx p.2.2.2.2.2 0 (0:Int))))))))))
  (ke (false))))
  (ke (false))
 o:=fun Z p e K=>K .normal ⟨[(0,.v (.int .u64 p.1)),(1,.v (.int .u64 p.2.1)),(6,.loc 0 0),(7,.v (.all 0)),(76,.v (.bool e))],[[.bool p.2.2.1,.int .i64 p.2.2.2.1,.int .i64 p.2.2.2.2.1]],⟨[.cells (.int .i64) p.2.2.2.2.2],0⟩,0⟩
 pol:=⟨[0,1,6,7],[],[],[]⟩
 pe:=[(.normal,⟨[0,1,6,7,76],[],[],[]⟩)]
def f123_c16:PD (Int×Int×Bool×Bool×Int×Int×(List Int)) ((List Int)) where
 sk:=⟨[(0,.v (.int .u64)),(1,.v (.int .u64)),(6,.loc 0 0),(7,.v (.all 0)),(76,.v .bool)],[(.cons .bool (.cons (.int .i64) (.cons (.int .i64) .nil)))],[.cells (.int .i64)],0,0⟩
 p:=fun u=>(u.1.1,u.1.2.1,u.1.2.2.2.1,u.2.1.1.1,u.2.1.1.2.1,u.2.1.1.2.2.1,u.2.2.1)
 n:=fun p=>((p.1,(p.2.1,((),(p.2.2.1,())))),(((p.2.2.2.1,(p.2.2.2.2.1,(p.2.2.2.2.2.1,()))),()),(p.2.2.2.2.2.2,())))
 st:=fun Y p ke=>cond p.2.2.1
  (ask (decide (((List.length p.2.2.2.2.2.2)+(List.length ([0]:List Int))) * 8≤70368744177664)&&decide (((List.length p.2.2.2.2.2.2)+(List.length ([0]:List Int)))<9223372036854775808)) (ke ((p.2.2.2.2.2.2++([0]:List Int)))))
  (ke (p.2.2.2.2.2.2))
 o:=fun Z p e K=>K .normal ⟨[(0,.v (.int .u64 p.1)),(1,.v (.int .u64 p.2.1)),(6,.loc 0 0),(7,.v (.all 0))],[[.bool p.2.2.2.1,.int .i64 p.2.2.2.2.1,.int .i64 p.2.2.2.2.2.1]],⟨[.cells (.int .i64) e],0⟩,0⟩
 pol:=⟨[0,1,6,7,76],[],[],[]⟩
 pe:=[(.normal,⟨[0,1,6,7],[],[],[]⟩)]
def f123_r17:PD (Int×Int×Bool×Int×Int×(List Int)) (Bool) where
 sk:=⟨[(0,.v (.int .u64)),(1,.v (.int .u64)),(6,.loc 0 0),(7,.v (.all 0))],[(.cons .bool (.cons (.int .i64) (.cons (.int .i64) .nil)))],[.cells (.int .i64)],0,0⟩
 p:=fun u=>(u.1.1,u.1.2.1,u.2.1.1.1,u.2.1.1.2.1,u.2.1.1.2.2.1,u.2.2.1)
 n:=fun p=>((p.1,(p.2.1,((),()))),(((p.2.2.1,(p.2.2.2.1,(p.2.2.2.2.1,()))),()),(p.2.2.2.2.2,())))
 st:=fun Y p ke=>cond (decide ((nt (List.length p.2.2.2.2.2))=(1:Int)))
  (ask (V.inRange 0 (List.length p.2.2.2.2.2)) (cond (decide ((gx p.2.2.2.2.2 0 (0:Int))<(0:Int)))
  (ask (V.inRange 0 (List.length p.2.2.2.2.2)) ((f111_m (gx p.2.2.2.2.2 0 (0:Int))).bind fun r1=>
  ke ((decide (p.1≤(wu64 ((2147483648:Int)-r1)))))))
  (ke (false))))
  (ke (false))
 o:=fun Z p e K=>K .normal ⟨[(0,.v (.int .u64 p.1)),(1,.v (.int .u64 p.2.1)),(6,.loc 0 0),(7,.v (.all 0)),(97,.v (.bool e))],[[.bool p.2.2.1,.int .i64 p.2.2.2.1,.int .i64 p.2.2.2.2.1]],⟨[.cells (.int .i64) p.2.2.2.2.2],0⟩,0⟩
 pol:=⟨[0,1,6,7],[],[],[]⟩
 pe:=[(.normal,⟨[0,1,6,7,97],[],[],[]⟩)]
def f123_c18:PD (Int×Int×Bool×Bool×Int×Int×(List Int)) ((List Int)) where
 sk:=⟨[(0,.v (.int .u64)),(1,.v (.int .u64)),(6,.loc 0 0),(7,.v (.all 0)),(97,.v .bool)],[(.cons .bool (.cons (.int .i64) (.cons (.int .i64) .nil)))],[.cells (.int .i64)],0,0⟩
 p:=fun u=>(u.1.1,u.1.2.1,u.1.2.2.2.1,u.2.1.1.1,u.2.1.1.2.1,u.2.1.1.2.2.1,u.2.2.1)
 n:=fun p=>((p.1,(p.2.1,((),(p.2.2.1,())))),(((p.2.2.2.1,(p.2.2.2.2.1,(p.2.2.2.2.2.1,()))),()),(p.2.2.2.2.2.2,())))
 st:=fun Y p ke=>cond p.2.2.1
  (ask (decide (((List.length p.2.2.2.2.2.2)+(List.length ([0]:List Int))) * 8≤70368744177664)&&decide (((List.length p.2.2.2.2.2.2)+(List.length ([0]:List Int)))<9223372036854775808)) (ke ((p.2.2.2.2.2.2++([0]:List Int)))))
  (ke (p.2.2.2.2.2.2))
 o:=fun Z p e K=>K .normal ⟨[(0,.v (.int .u64 p.1)),(1,.v (.int .u64 p.2.1)),(6,.loc 0 0),(7,.v (.all 0))],[[.bool p.2.2.2.1,.int .i64 p.2.2.2.2.1,.int .i64 p.2.2.2.2.2.1]],⟨[.cells (.int .i64) e],0⟩,0⟩
 pol:=⟨[0,1,6,7,97],[],[],[]⟩
 pe:=[(.normal,⟨[0,1,6,7],[],[],[]⟩)]
def f123_c {X:Type} (a:Int×Int×Bool) (K:TCongr→Option X):Option X:=
 cond (decide (a.1=(0:Int)))
 ((f123_r2.m (a.2,false,0,0)).bind fun e1=>
 cond e1
 (K (false,(0,(wi64 ((0:Int)-(wi64 a.2.1))))))
 ((f123_r4.m (a.2,false,0,0)).bind fun e2=>
 cond e2
 (K (false,(0,(wi64 a.2.1))))
 (K (true,(0,0)))))
 (cond (decide (a.1=(0:Int)))
 (none)
 ((f123_r8.m (a.1,(Int.tmod a.2.1 a.1),a.2.2,false,0,0)).bind fun e3=>
 (f123_c9.m (a.1,(Int.tmod a.2.1 a.1),e3,false,0,0)).bind fun e4=>
 (f123_c12.m (a.1,e4,(decide (e4≤(2147483647:Int))),false,0,0)).bind fun e5=>
 (f123_c14.m (a.1,e4,(decide ((wu64 (a.1-e4))≤(2147483648:Int))),false,0,0,e5)).bind fun e6=>
 (f123_r15.m (a.1,e4,false,0,0,e6)).bind fun e7=>
 (f123_c16.m (a.1,e4,e7,false,0,0,e6)).bind fun e8=>
 (f123_r17.m (a.1,e4,false,0,0,e8)).bind fun e9=>
 (f123_c18.m (a.1,e4,e9,false,0,0,e8)).bind fun e10=>
 cond (decide ((nt (List.length e10))=(0:Int)))
 (K (true,(0,0)))
 (cond (decide ((nt (List.length e10))=(1:Int)))
 (ask (V.inRange 0 (List.length e10)) (K (false,(0,(gx e10 0 (0:Int))))))
 (K (false,((wi64 a.1),(wi64 e4)))))))
def f123_m (a:Int×Int×Bool):Option (TCongr):=f123_c a some
def f123_sp:Spec:=f123_s.sp f123_m
noncomputable def f123_e:Env:=⟨fun k=>[1000009,1000012,1000014,1000016,1000018,2000002,2000004,2000008,2000015,2000017].contains k,callsL [(105,f105_sp),(111,f111_sp)],fun X k s K=>if k=2000002 then f123_r2.q X s K else if k=2000004 then f123_r4.q X s K else if k=2000008 then f123_r8.q X s K else if k=1000009 then f123_c9.q X s K else if k=1000012 then f123_c12.q X s K else if k=1000014 then f123_c14.q X s K else if k=2000015 then f123_r15.q X s K else if k=1000016 then f123_c16.q X s K else if k=2000017 then f123_r17.q X s K else if k=1000018 then f123_c18.q X s K else none⟩
noncomputable def f123_r2_c:Code:=subAt [1,0,1,0,0,0] (bodyOf Tryz.f123)
theorem f123_r2_ok {C:V.Callee} (hc:SimCall C f123_e.call):LoopSim f123_e.loop (vc par C true [6] 117) f123_r2_c:=
 piece_form glob_ok (env:=f123_e) (env0:=⟨offJ f123_e.join 2000002,f123_e.call,f123_e.loop⟩) hc rfl (lp_of (by kernel_rfl) lp_nil) f123_r2 (by kernel_rfl) (by intros;simp only [f123_r2,PD.m,n1,n2,n3,n4,n5,n6,n7,n8]) (fun _=>by kernel_rfl) (fun _=>rfl) (fun _ _ _ _=>rfl) (fun _ _ _=>by kernel_rfl)
noncomputable def f123_r4_c:Code:=subAt [1,0,1,0,1,0,0] (bodyOf Tryz.f123)
theorem f123_r4_ok {C:V.Callee} (hc:SimCall C f123_e.call):LoopSim f123_e.loop (vc par C true [6] 117) f123_r4_c:=
 piece_form glob_ok (env:=f123_e) (env0:=⟨offJ f123_e.join 2000004,f123_e.call,f123_e.loop⟩) hc rfl (lp_of (by kernel_rfl) lp_nil) f123_r4 (by kernel_rfl) (by intros;simp only [f123_r4,PD.m,n1,n2,n3,n4,n5,n6,n7,n8]) (fun _=>by kernel_rfl) (fun _=>rfl) (fun _ _ _ _=>rfl) (fun _ _ _=>by kernel_rfl)
noncomputable def f123_r8_c:Code:=subAt [1,1,1,0,0] (bodyOf Tryz.f123)
theorem f123_r8_ok {C:V.Callee} (hc:SimCall C f123_e.call):LoopSim f123_e.loop (vc par C true [6] 117) f123_r8_c:=
 piece_form glob_ok (env:=f123_e) (env0:=⟨offJ f123_e.join 2000008,f123_e.call,f123_e.loop⟩) hc rfl (lp_of (by kernel_rfl) lp_nil) f123_r8 (by kernel_rfl) (by intros;simp only [f123_r8,PD.m,n1,n2,n3,n4,n5,n6,n7,n8]) (fun _=>by kernel_rfl) (fun _=>rfl) (fun _ _ _ _=>rfl) (fun _ _ _=>by kernel_rfl)
noncomputable def f123_c9_c:Code:=subAt [1,1,1,0,1] (bodyOf Tryz.f123)
theorem f123_c9_ok {C:V.Callee} (hc:SimCall C f123_e.call):LoopSim f123_e.loop (vc par C true [6] 117) f123_c9_c:=
 piece_form glob_ok (env:=f123_e) (env0:=⟨offJ f123_e.join 1000009,f123_e.call,f123_e.loop⟩) hc rfl (lp_of (by kernel_rfl) lp_nil) f123_c9 (by kernel_rfl) (by intros;simp only [f123_c9,PD.m,n1,n2,n3,n4,n5,n6,n7,n8]) (fun _=>by kernel_rfl) (fun _=>rfl) (fun _ _ _ _=>rfl) (fun _ _ _=>by kernel_rfl)
noncomputable def f123_c12_c:Code:=subAt [1,1,1,1,1,0,1] (bodyOf Tryz.f123)
theorem f123_c12_ok {C:V.Callee} (hc:SimCall C f123_e.call):LoopSim f123_e.loop (vc par C true [6] 117) f123_c12_c:=
 piece_form glob_ok (env:=f123_e) (env0:=⟨offJ f123_e.join 1000012,f123_e.call,f123_e.loop⟩) hc rfl (lp_of (by kernel_rfl) lp_nil) f123_c12 (by kernel_rfl) (by intros;simp only [f123_c12,PD.m,n1,n2,n3,n4,n5,n6,n7,n8]) (fun _=>by kernel_rfl) (fun _=>rfl) (fun _ _ _ _=>rfl) (fun _ _ _=>by kernel_rfl)
noncomputable def f123_c14_c:Code:=subAt [1,1,1,1,1,1,0,1] (bodyOf Tryz.f123)
theorem f123_c14_ok {C:V.Callee} (hc:SimCall C f123_e.call):LoopSim f123_e.loop (vc par C true [6] 117) f123_c14_c:=
 piece_form glob_ok (env:=f123_e) (env0:=⟨offJ f123_e.join 1000014,f123_e.call,f123_e.loop⟩) hc rfl (lp_of (by kernel_rfl) lp_nil) f123_c14 (by kernel_rfl) (by intros;simp only [f123_c14,PD.m,n1,n2,n3,n4,n5,n6,n7,n8]) (fun _=>by kernel_rfl) (fun _=>rfl) (fun _ _ _ _=>rfl) (fun _ _ _=>by kernel_rfl)
noncomputable def f123_r15_c:Code:=subAt [1,1,1,1,1,1,1,0,0] (bodyOf Tryz.f123)
theorem f123_r15_ok {C:V.Callee} (hc:SimCall C f123_e.call):LoopSim f123_e.loop (vc par C true [6] 117) f123_r15_c:=
 piece_form glob_ok (env:=f123_e) (env0:=⟨offJ f123_e.join 2000015,f123_e.call,f123_e.loop⟩) hc rfl (lp_of (by kernel_rfl) lp_nil) f123_r15 (by kernel_rfl) (by intros;simp only [f123_r15,PD.m,n1,n2,n3,n4,n5,n6,n7,n8]) (fun _=>by kernel_rfl) (fun _=>rfl) (fun _ _ _ _=>rfl) (fun _ _ _=>by kernel_rfl)
noncomputable def f123_c16_c:Code:=subAt [1,1,1,1,1,1,1,0,1] (bodyOf Tryz.f123)
theorem f123_c16_ok {C:V.Callee} (hc:SimCall C f123_e.call):LoopSim f123_e.loop (vc par C true [6] 117) f123_c16_c:=
 piece_form glob_ok (env:=f123_e) (env0:=⟨offJ f123_e.join 1000016,f123_e.call,f123_e.loop⟩) hc rfl (lp_of (by kernel_rfl) lp_nil) f123_c16 (by kernel_rfl) (by intros;simp only [f123_c16,PD.m,n1,n2,n3,n4,n5,n6,n7,n8]) (fun _=>by kernel_rfl) (fun _=>rfl) (fun _ _ _ _=>rfl) (fun _ _ _=>by kernel_rfl)
noncomputable def f123_r17_c:Code:=subAt [1,1,1,1,1,1,1,1,0,0] (bodyOf Tryz.f123)
theorem f123_r17_ok {C:V.Callee} (hc:SimCall C f123_e.call):LoopSim f123_e.loop (vc par C true [6] 117) f123_r17_c:=
 piece_form glob_ok (env:=f123_e) (env0:=⟨offJ f123_e.join 2000017,f123_e.call,f123_e.loop⟩) hc rfl (lp_of (by kernel_rfl) lp_nil) f123_r17 (by kernel_rfl) (by intros;simp only [f123_r17,PD.m,n1,n2,n3,n4,n5,n6,n7,n8]) (fun _=>by kernel_rfl) (fun _=>rfl) (fun _ _ _ _=>rfl) (fun _ _ _=>by kernel_rfl)
noncomputable def f123_c18_c:Code:=subAt [1,1,1,1,1,1,1,1,0,1] (bodyOf Tryz.f123)
theorem f123_c18_ok {C:V.Callee} (hc:SimCall C f123_e.call):LoopSim f123_e.loop (vc par C true [6] 117) f123_c18_c:=
 piece_form glob_ok (env:=f123_e) (env0:=⟨offJ f123_e.join 1000018,f123_e.call,f123_e.loop⟩) hc rfl (lp_of (by kernel_rfl) lp_nil) f123_c18 (by kernel_rfl) (by intros;simp only [f123_c18,PD.m,n1,n2,n3,n4,n5,n6,n7,n8]) (fun _=>by kernel_rfl) (fun _=>rfl) (fun _ _ _ _=>rfl) (fun _ _ _=>by kernel_rfl)
theorem f123_ok:OK (2) 123 (f123_s.sp f123_m):=
 fnOK (d:=1) (env:=f123_e) (callsL_sim (cc f105_ok (cc f111_ok cn))) (fn:=Tryz.f123) (locs:=[6]) (sh:= .any) (fz:=false) (by kernel_rfl) (fun hc=>(lp_of (by kernel_rfl) (lp_cons (f123_r2_ok hc) (lp_cons (f123_r4_ok hc) (lp_cons (f123_r8_ok hc) (lp_cons (f123_c9_ok hc) (lp_cons (f123_c12_ok hc) (lp_cons (f123_c14_ok hc) (lp_cons (f123_r15_ok hc) (lp_cons (f123_c16_ok hc) (lp_cons (f123_r17_ok hc) (lp_cons (f123_c18_ok hc) lp_nil)))))))))))) (mc:=fun X a K=>f123_c a K) (fun _ _ _=>by kernel_rfl) (by intros;simp only [f123_m,f123_c,n1,n2,n3,n4,n5,n6,n7,n8]) (fun _=>rfl)
def f71_s:FS (Int×Int) (TCongr) where
 sk:=⟨(.cons (.int .i64) (.cons (.int .i64) .nil)),[],0⟩
 a:=fun u=>(u.1.1,u.1.2.1)
 n:=fun a=>((a.1,(a.2,())),())
 o:=fun Z a r K=>K (.agg [.bool r.1,.int .i64 r.2.1,.int .i64 r.2.2]) ⟨[],0⟩
def f71_c {X:Type} (a:Int×Int) (K:TCongr→Option X):Option X:=
 (f111_m a.1).bind fun r1=>
 (f111_m a.2).bind fun r2=>
 (f123_m (r1,r2,(decide (a.2<(0:Int))))).bind fun r3=>
 K r3
def f71_m (a:Int×Int):Option (TCongr):=f71_c a some
def f71_sp:Spec:=f71_s.sp f71_m
noncomputable def f71_e:Env:=⟨fun k=>[].contains k,callsL [(111,f111_sp),(123,f123_sp)],fun X k s K=>none⟩
theorem f71_ok:OK (3) 71 (f71_s.sp f71_m):=
 fnOK (d:=2) (env:=f71_e) (callsL_sim (cc f111_ok (cc f123_ok cn))) (fn:=Tryz.f71) (locs:=[4]) (sh:= .any) (fz:=false) (by kernel_rfl) (fun hc=>(lp_of (by kernel_rfl) lp_nil)) (mc:=fun X a K=>f71_c a K) (fun _ _ _=>by kernel_rfl) (by intros;simp only [f71_m,f71_c,n1,n2,n3,n4,n5,n6,n7,n8]) (fun _=>rfl)
def f82_s:FS (TCongr) (Bool) where
 sk:=⟨(.cons (.agg (.cons .bool (.cons (.int .i64) (.cons (.int .i64) .nil)))) .nil),[],0⟩
 a:=fun u=>(u.1.1.1,(u.1.1.2.1,u.1.1.2.2.1))
 n:=fun a=>(((a.1,(a.2.1,(a.2.2,()))),()),())
 o:=fun Z a r K=>K (.bool r) ⟨[],0⟩
def f82_c {X:Type} (a:TCongr) (K:Bool→Option X):Option X:=
 cond a.1
 (cond (decide (a.2.1=(0:Int)))
 (K (decide (a.2.2=(0:Int))))
 (K false))
 (cond (decide ((0:Int)≤a.2.1))
 ((f71_m (a.2.1,a.2.2)).bind fun r1=>
 K ((a.1==r1.1)&&((decide (a.2.1=r1.2.1))&&((decide (a.2.2=r1.2.2))&&true))))
 (K false))
def f82_m (a:TCongr):Option (Bool):=f82_c a some
def f82_sp:Spec:=f82_s.sp f82_m
noncomputable def f82_e:Env:=⟨fun k=>[].contains k,callsL [(71,f71_sp)],fun X k s K=>none⟩
theorem f82_ok:OK (4) 82 (f82_s.sp f82_m):=
 fnOK (d:=3) (env:=f82_e) (callsL_sim (cc f71_ok cn)) (fn:=Tryz.f82) (locs:=[1]) (sh:= .any) (fz:=false) (by kernel_rfl) (fun hc=>(lp_of (by kernel_rfl) lp_nil)) (mc:=fun X a K=>f82_c a K) (fun _ _ _=>by kernel_rfl) (by intros;simp only [f82_m,f82_c,n1,n2,n3,n4,n5,n6,n7,n8]) (fun _=>rfl)
def f44_s:FS ((List TCongr)×Int) (Bool) where
 sk:=⟨(.cons (.lit cCongr) (.cons (.int .i64) .nil)),[],0⟩
 a:=fun u=>(u.1.1,u.1.2.1)
 n:=fun a=>((a.1,(a.2,())),())
 o:=fun Z a r K=>K (.bool r) ⟨[],0⟩
def f44_l4:LD (((List TCongr)×Int)) (Int) ((Unit) ⊕ (Unit)) where
 sk:=⟨[(0,.v (.lit cCongr)),(1,.v (.int .i64)),(5,.v (.int .i64))],[],[],0,0⟩
 p:=fun u=>(u.1.1,u.1.2.1)
 t:=fun u=>u.1.2.2.1
 n:=fun p t=>((p.1,(p.2,(t,()))),((),()))
 st:=fun Y p t ki ke=>cond (decide (t<p.2))
  (ask (V.inRange t (List.length p.1)) (cond (gx p.1 (Int.toNat t) dCongr).1
  (ke (.inl ()))
  (ask (V.inRange t (List.length p.1)) ((f82_m (gx p.1 (Int.toNat t) dCongr)).bind fun r1=>
  cond (!r1)
  (ke (.inl ()))
  (ki ((wi64 (t+(1:Int)))))))))
  (ke (.inr (())))
 o:=fun Z p e K=>Sum.elim (fun e=>K .ret ⟨[(4,.v (.bool false))],[],⟨[],0⟩,0⟩) (fun e=>K (.exit 0) ⟨[],[],⟨[],0⟩,0⟩) e
 pol:=⟨[0,1,5],[],[],[]⟩
 pe:=[(.ret,⟨[4],[],[],[]⟩),(.exit 0,⟨[],[],[],[]⟩)]
def f44_c {X:Type} (a:(List TCongr)×Int) (K:Bool→Option X):Option X:=
 cond (!(decide ((nt (List.length a.1))=a.2)))
 (K false)
 ((loopAll (f44_l4.m a) 0).bind fun e1=>
 Sum.elim (fun e2=>K false)
 (fun e3=>K true) e1)
def f44_m (a:(List TCongr)×Int):Option (Bool):=f44_c a some
def f44_sp:Spec:=f44_s.sp f44_m
noncomputable def f44_e:Env:=⟨fun k=>[].contains k,callsL [(82,f82_sp)],fun X k s K=>if k=4 then f44_l4.q X s K else none⟩
noncomputable def f44_l4_c:Code:=subAt [1,1,0,1,0,0] (bodyOf Tryz.f44)
theorem f44_l4_ok {C:V.Callee} (hc:SimCall C f44_e.call):LoopSim f44_e.loop (vc par C true [] 28) (.loop f44_l4_c):=
 loop_form glob_ok hc (lp_of (by kernel_rfl) lp_nil) f44_l4 (by kernel_rfl) (by intros;simp only [f44_l4,LD.m,n1,n2,n3,n4,n5,n6,n7,n8]) (fun _ _=>by kernel_rfl) (fun _=>rfl) (fun _ _ e _=>by rcases e with e|e<;>rfl) (fun _ _ _=>by kernel_rfl)
theorem f44_ok:OK (5) 44 (f44_s.sp f44_m):=
 fnOK (d:=4) (env:=f44_e) (callsL_sim (cc f82_ok cn)) (fn:=Tryz.f44) (locs:=[]) (sh:= .any) (fz:=false) (by kernel_rfl) (fun hc=>(lp_of (by kernel_rfl) (lp_cons (f44_l4_ok hc) lp_nil))) (mc:=fun X a K=>f44_c a K) (fun _ _ _=>by kernel_rfl) (by intros;simp only [f44_m,f44_c,n1,n2,n3,n4,n5,n6,n7,n8]) (fun _=>rfl)
def f11_s:FS (TGraph×TMods) (Bool) where
 sk:=⟨(.cons (.agg (.cons (.lit cInstr) (.cons (.int .i64) (.cons (.int .i64) (.cons (.int .i64) (.cons (.lit cArray) (.cons (.lit cScalar) (.cons (.lit cArray) (.cons (.lit cItv) .nil))))))))) (.cons (.agg (.cons .bool (.cons (.lit cCongr) (.cons (.lit cCongr) .nil)))) .nil)),[],0⟩
 a:=fun u=>((u.1.1.1,(u.1.1.2.1,(u.1.1.2.2.1,(u.1.1.2.2.2.1,(u.1.1.2.2.2.2.1,(u.1.1.2.2.2.2.2.1,(u.1.1.2.2.2.2.2.2.1,u.1.1.2.2.2.2.2.2.2.1))))))),(u.1.2.1.1,(u.1.2.1.2.1,u.1.2.1.2.2.1)))
 n:=fun a=>(((a.1.1,(a.1.2.1,(a.1.2.2.1,(a.1.2.2.2.1,(a.1.2.2.2.2.1,(a.1.2.2.2.2.2.1,(a.1.2.2.2.2.2.2.1,(a.1.2.2.2.2.2.2.2,())))))))),((a.2.1,(a.2.2.1,(a.2.2.2,()))),())),())
 o:=fun Z a r K=>K (.bool r) ⟨[],0⟩
def f11_c {X:Type} (a:TGraph×TMods) (K:Bool→Option X):Option X:=
 cond (!a.2.1)
 (cond (decide ((nt (List.length a.2.2.1))=(0:Int)))
 (K (decide ((nt (List.length a.2.2.2))=(0:Int))))
 (K false))
 ((f44_m (a.2.2.1,(nt (List.length a.1.2.2.2.2.2.1)))).bind fun r1=>
 cond r1
 ((f44_m (a.2.2.2,(nt (List.length a.1.2.2.2.2.2.2.1)))).bind fun r2=>
 K r2)
 (K false))
def f11_m (a:TGraph×TMods):Option (Bool):=f11_c a some
def f11_sp:Spec:=f11_s.sp f11_m
noncomputable def f11_e:Env:=⟨fun k=>[].contains k,callsL [(44,f44_sp)],fun X k s K=>none⟩
theorem f11_ok:OK (6) 11 (f11_s.sp f11_m):=
 fnOK (d:=5) (env:=f11_e) (callsL_sim (cc f44_ok cn)) (fn:=Tryz.f11) (locs:=[2,3]) (sh:= .any) (fz:=false) (by kernel_rfl) (fun hc=>(lp_of (by kernel_rfl) lp_nil)) (mc:=fun X a K=>f11_c a K) (fun _ _ _=>by kernel_rfl) (by intros;simp only [f11_m,f11_c,n1,n2,n3,n4,n5,n6,n7,n8]) (fun _=>rfl)
def f28_s:FS (TMods×(List Int)×(List (List Int))) (Bool) where
 sk:=⟨(.cons (.agg (.cons .bool (.cons (.lit cCongr) (.cons (.lit cCongr) .nil)))) (.cons (.lit (.int .i64)) (.cons (.lit (.slice (.int .i64))) .nil))),[],0⟩
 a:=fun u=>((u.1.1.1,(u.1.1.2.1,u.1.1.2.2.1)),u.1.2.1,u.1.2.2.1)
 n:=fun a=>(((a.1.1,(a.1.2.1,(a.1.2.2,()))),(a.2.1,(a.2.2,()))),())
 o:=fun Z a r K=>K (.bool r) ⟨[],0⟩
def f28_l4:LD ((List (List Int))×(List Int)×Int×TMods) (Int) ((Unit) ⊕ (Unit)) where
 sk:=⟨[(2,.v (.lit (.slice (.int .i64)))),(3,.loc 0 0),(32,.v (.lit (.int .i64))),(33,.v (.int .i64)),(34,.v (.int .i64))],[(.cons .bool (.cons (.lit cCongr) (.cons (.lit cCongr) .nil)))],[],0,0⟩
 p:=fun u=>(u.1.1,u.1.2.1,u.1.2.2.1,(u.2.1.1.1,(u.2.1.1.2.1,u.2.1.1.2.2.1)))
 t:=fun u=>u.1.2.2.2.1
 n:=fun p t=>((p.1,(p.2.1,(p.2.2.1,(t,())))),(((p.2.2.2.1,(p.2.2.2.2.1,(p.2.2.2.2.2,()))),()),()))
 st:=fun Y p t ki ke=>cond (decide (t<p.2.2.1))
  (ask (V.inRange t (List.length p.2.1)) (ask (V.inRange t (List.length p.2.2.2.2.1)) ((f64_m ((gx p.2.2.2.2.1 (Int.toNat t) dCongr),(gx p.2.1 (Int.toNat t) (0:Int)))).bind fun r1=>
  cond (!r1)
  (ke (.inl ()))
  (ki ((wi64 (t+(1:Int))))))))
  (ke (.inr (())))
 o:=fun Z p e K=>Sum.elim (fun e=>K .ret ⟨[(6,.v (.bool false))],[],⟨[],0⟩,0⟩) (fun e=>K (.exit 0) ⟨[(2,.v (.lit (.slice (.int .i64)) p.1)),(3,.loc 0 0)],[[.bool p.2.2.2.1,.lit cCongr p.2.2.2.2.1,.lit cCongr p.2.2.2.2.2]],⟨[],0⟩,0⟩) e
 pol:=⟨[2,3,32,33,34],[],[],[]⟩
 pe:=[(.ret,⟨[6],[],[],[]⟩),(.exit 0,⟨[2,3],[],[],[]⟩)]
def f28_l13:LD (Int×(List (List Int))×Int×Int×(List Int)×Int×TMods) (Int) ((Unit) ⊕ (Unit)) where
 sk:=⟨[(3,.loc 0 0),(9,.v (.int .i64)),(48,.v (.lit (.slice (.int .i64)))),(49,.v (.int .i64)),(50,.v (.int .i64)),(55,.v (.lit (.int .i64))),(56,.v (.int .i64)),(57,.v (.int .i64))],[(.cons .bool (.cons (.lit cCongr) (.cons (.lit cCongr) .nil)))],[],0,0⟩
 p:=fun u=>(u.1.1,u.1.2.1,u.1.2.2.1,u.1.2.2.2.1,u.1.2.2.2.2.1,u.1.2.2.2.2.2.1,(u.2.1.1.1,(u.2.1.1.2.1,u.2.1.1.2.2.1)))
 t:=fun u=>u.1.2.2.2.2.2.2.1
 n:=fun p t=>((p.1,(p.2.1,(p.2.2.1,(p.2.2.2.1,(p.2.2.2.2.1,(p.2.2.2.2.2.1,(t,()))))))),(((p.2.2.2.2.2.2.1,(p.2.2.2.2.2.2.2.1,(p.2.2.2.2.2.2.2.2,()))),()),()))
 st:=fun Y p t ki ke=>cond (decide (t<p.2.2.2.2.2.1))
  (ask (V.inRange t (List.length p.2.2.2.2.1)) (ask (V.inRange p.1 (List.length p.2.2.2.2.2.2.2.2)) ((f64_m ((gx p.2.2.2.2.2.2.2.2 (Int.toNat p.1) dCongr),(gx p.2.2.2.2.1 (Int.toNat t) (0:Int)))).bind fun r1=>
  cond (!r1)
  (ke (.inl ()))
  (ki ((wi64 (t+(1:Int))))))))
  (ke (.inr (())))
 o:=fun Z p e K=>Sum.elim (fun e=>K .ret ⟨[(6,.v (.bool false))],[],⟨[],0⟩,0⟩) (fun e=>K (.exit 4) ⟨[(3,.loc 0 0),(48,.v (.lit (.slice (.int .i64)) p.2.1)),(49,.v (.int .i64 p.2.2.1)),(50,.v (.int .i64 p.2.2.2.1))],[[.bool p.2.2.2.2.2.2.1,.lit cCongr p.2.2.2.2.2.2.2.1,.lit cCongr p.2.2.2.2.2.2.2.2]],⟨[],0⟩,0⟩) e
 pol:=⟨[3,9,48,49,50,55,56,57],[],[],[]⟩
 pe:=[(.ret,⟨[6],[],[],[]⟩),(.exit 4,⟨[3,48,49,50],[],[],[]⟩)]
def f28_l10:LD ((List (List Int))×Int×TMods) (Int) ((Unit) ⊕ (Unit)) where
 sk:=⟨[(3,.loc 0 0),(48,.v (.lit (.slice (.int .i64)))),(49,.v (.int .i64)),(50,.v (.int .i64))],[(.cons .bool (.cons (.lit cCongr) (.cons (.lit cCongr) .nil)))],[],0,0⟩
 p:=fun u=>(u.1.1,u.1.2.1,(u.2.1.1.1,(u.2.1.1.2.1,u.2.1.1.2.2.1)))
 t:=fun u=>u.1.2.2.1
 n:=fun p t=>((p.1,(p.2.1,(t,()))),(((p.2.2.1,(p.2.2.2.1,(p.2.2.2.2,()))),()),()))
 st:=fun Y p t ki ke=>cond (decide (t<p.2.1))
  (ask (V.inRange t (List.length p.1)) ((loopAll (f28_l13.m (t,p.1,p.2.1,t,(gx p.1 (Int.toNat t) []),(nt (List.length (gx p.1 (Int.toNat t) []))),p.2.2)) 0).bind fun e1=>
  Sum.elim (fun e2=>ke (.inl ()))
  (fun e3=>ki ((wi64 (t+(1:Int))))) e1))
  (ke (.inr (())))
 o:=fun Z p e K=>Sum.elim (fun e=>K .ret ⟨[(6,.v (.bool false))],[],⟨[],0⟩,0⟩) (fun e=>K (.exit 2) ⟨[],[],⟨[],0⟩,0⟩) e
 pol:=⟨[3,48,49,50],[],[],[]⟩
 pe:=[(.ret,⟨[6],[],[],[]⟩),(.exit 2,⟨[],[],[],[]⟩)]
def f28_c {X:Type} (a:TMods×(List Int)×(List (List Int))) (K:Bool→Option X):Option X:=
 cond (!a.1.1)
 (K false)
 (cond (!(decide ((nt (List.length a.2.1))=(nt (List.length a.1.2.1)))))
 (K false)
 (cond (!(decide ((nt (List.length a.2.2))=(nt (List.length a.1.2.2)))))
 (K false)
 ((loopAll (f28_l4.m (a.2.2,a.2.1,(nt (List.length a.2.1)),a.1)) 0).bind fun e1=>
 Sum.elim (fun e2=>K false)
 (fun e3=>(loopAll (f28_l10.m (a.2.2,(nt (List.length a.2.2)),a.1)) 0).bind fun e4=>
 Sum.elim (fun e5=>K false)
 (fun e6=>K true) e4) e1)))
def f28_m (a:TMods×(List Int)×(List (List Int))):Option (Bool):=f28_c a some
def f28_sp:Spec:=f28_s.sp f28_m
noncomputable def f28_e:Env:=⟨fun k=>[].contains k,callsL [(64,f64_sp)],fun X k s K=>if k=4 then f28_l4.q X s K else if k=13 then f28_l13.q X s K else if k=10 then f28_l10.q X s K else none⟩
noncomputable def f28_l4_c:Code:=subAt [1,1,0,1,0,0] (bodyOf Tryz.f28)
theorem f28_l4_ok {C:V.Callee} (hc:SimCall C f28_e.call):LoopSim f28_e.loop (vc par C true [3] 71) (.loop f28_l4_c):=
 loop_form glob_ok hc (lp_of (by kernel_rfl) lp_nil) f28_l4 (by kernel_rfl) (by intros;simp only [f28_l4,LD.m,n1,n2,n3,n4,n5,n6,n7,n8]) (fun _ _=>by kernel_rfl) (fun _=>rfl) (fun _ _ e _=>by rcases e with e|e<;>rfl) (fun _ _ _=>by kernel_rfl)
noncomputable def f28_l13_c:Code:=subAt [1,1,1,0,1,0,0,1,1,0,0,1,1,0,0] (bodyOf Tryz.f28)
theorem f28_l13_ok {C:V.Callee} (hc:SimCall C f28_e.call):LoopSim f28_e.loop (vc par C true [3] 71) (.loop f28_l13_c):=
 loop_form glob_ok hc (lp_of (by kernel_rfl) lp_nil) f28_l13 (by kernel_rfl) (by intros;simp only [f28_l13,LD.m,n1,n2,n3,n4,n5,n6,n7,n8]) (fun _ _=>by kernel_rfl) (fun _=>rfl) (fun _ _ e _=>by rcases e with e|e<;>rfl) (fun _ _ _=>by kernel_rfl)
noncomputable def f28_l10_c:Code:=subAt [1,1,1,0,1,0,0] (bodyOf Tryz.f28)
theorem f28_l10_ok {C:V.Callee} (hc:SimCall C f28_e.call):LoopSim f28_e.loop (vc par C true [3] 71) (.loop f28_l10_c):=
 loop_form glob_ok hc (lp_of (by kernel_rfl) (lp_cons (f28_l13_ok hc) lp_nil)) f28_l10 (by kernel_rfl) (by intros;simp only [f28_l10,LD.m,n1,n2,n3,n4,n5,n6,n7,n8]) (fun _ _=>by kernel_rfl) (fun _=>rfl) (fun _ _ e _=>by rcases e with e|e<;>rfl) (fun _ _ _=>by kernel_rfl)
theorem f28_ok:OK (4) 28 (f28_s.sp f28_m):=
 fnOK (d:=3) (env:=f28_e) (callsL_sim (cc f64_ok cn)) (fn:=Tryz.f28) (locs:=[3]) (sh:= .any) (fz:=false) (by kernel_rfl) (fun hc=>(lp_of (by kernel_rfl) (lp_cons (f28_l4_ok hc) (lp_cons (f28_l10_ok hc) lp_nil)))) (mc:=fun X a K=>f28_c a K) (fun _ _ _=>by kernel_rfl) (by intros;simp only [f28_m,f28_c,n1,n2,n3,n4,n5,n6,n7,n8]) (fun _=>rfl)
def f65_s:FS (TCongr×Int) (Bool) where
 sk:=⟨(.cons (.agg (.cons .bool (.cons (.int .i64) (.cons (.int .i64) .nil)))) (.cons (.int .i64) .nil)),[],0⟩
 a:=fun u=>((u.1.1.1,(u.1.1.2.1,u.1.1.2.2.1)),u.1.2.1)
 n:=fun a=>(((a.1.1,(a.1.2.1,(a.1.2.2,()))),(a.2,())),())
 o:=fun Z a r K=>K (.bool r) ⟨[],0⟩
def f65_c {X:Type} (a:TCongr×Int) (K:Bool→Option X):Option X:=
 cond a.1.1
 (K false)
 (cond (decide (a.2<(-2147483648:Int)))
 (K false)
 (cond (decide ((2147483647:Int)<a.2))
 (K false)
 (cond (decide (a.1.2.1=(0:Int)))
 (K (decide (a.2=a.1.2.2)))
 (cond (decide (a.1.2.1=(0:Int)))
 (none)
 (K (decide ((Int.tmod (wi64 (a.2-a.1.2.2)) a.1.2.1)=(0:Int))))))))
def f65_m (a:TCongr×Int):Option (Bool):=f65_c a some
def f65_sp:Spec:=f65_s.sp f65_m
noncomputable def f65_e:Env:=⟨fun k=>[].contains k,callsL [],fun X k s K=>none⟩
theorem f65_ok:OK (1) 65 (f65_s.sp f65_m):=
 fnOK (d:=0) (env:=f65_e) (callsL_sim cn) (fn:=Tryz.f65) (locs:=[2]) (sh:= .any) (fz:=false) (by kernel_rfl) (fun hc=>(lp_of (by kernel_rfl) lp_nil)) (mc:=fun X a K=>f65_c a K) (fun _ _ _=>by kernel_rfl) (by intros;simp only [f65_m,f65_c,n1,n2,n3,n4,n5,n6,n7,n8]) (fun _=>rfl)
def f29_s:FS (TMods×(List Int)×(List (List Int))) (Bool) where
 sk:=⟨(.cons (.agg (.cons .bool (.cons (.lit cCongr) (.cons (.lit cCongr) .nil)))) (.cons (.lit (.int .i64)) (.cons (.lit (.slice (.int .i64))) .nil))),[],0⟩
 a:=fun u=>((u.1.1.1,(u.1.1.2.1,u.1.1.2.2.1)),u.1.2.1,u.1.2.2.1)
 n:=fun a=>(((a.1.1,(a.1.2.1,(a.1.2.2,()))),(a.2.1,(a.2.2,()))),())
 o:=fun Z a r K=>K (.bool r) ⟨[],0⟩
def f29_l4:LD (((List Int)×(List (List Int)))×TMods) (Int) ((Unit) ⊕ (Unit)) where
 sk:=⟨[(1,.v (.lit (.int .i64))),(2,.v (.lit (.slice (.int .i64)))),(3,.loc 0 0),(7,.v (.int .i64))],[(.cons .bool (.cons (.lit cCongr) (.cons (.lit cCongr) .nil)))],[],0,0⟩
 p:=fun u=>((u.1.1,u.1.2.1),(u.2.1.1.1,(u.2.1.1.2.1,u.2.1.1.2.2.1)))
 t:=fun u=>u.1.2.2.1
 n:=fun p t=>((p.1.1,(p.1.2,(t,()))),(((p.2.1,(p.2.2.1,(p.2.2.2,()))),()),()))
 st:=fun Y p t ki ke=>cond (decide (t<(nt (List.length p.1.1))))
  (ask (V.inRange t (List.length p.2.2.1)) (ask (V.inRange t (List.length p.1.1)) ((f65_m ((gx p.2.2.1 (Int.toNat t) dCongr),(gx p.1.1 (Int.toNat t) (0:Int)))).bind fun r1=>
  cond (!r1)
  (ke (.inl ()))
  (ki ((wi64 (t+(1:Int))))))))
  (ke (.inr (())))
 o:=fun Z p e K=>Sum.elim (fun e=>K .ret ⟨[(6,.v (.bool false))],[],⟨[],0⟩,0⟩) (fun e=>K (.exit 0) ⟨[(2,.v (.lit (.slice (.int .i64)) p.1.2)),(3,.loc 0 0)],[[.bool p.2.1,.lit cCongr p.2.2.1,.lit cCongr p.2.2.2]],⟨[],0⟩,0⟩) e
 pol:=⟨[1,2,3,7],[],[],[]⟩
 pe:=[(.ret,⟨[6],[],[],[]⟩),(.exit 0,⟨[2,3],[],[],[]⟩)]
def f29_l12:LD ((List (List Int))×Int×TMods) (Int) ((Unit) ⊕ (Unit)) where
 sk:=⟨[(2,.v (.lit (.slice (.int .i64)))),(3,.loc 0 0),(8,.v (.int .i64)),(9,.v (.int .i64))],[(.cons .bool (.cons (.lit cCongr) (.cons (.lit cCongr) .nil)))],[],0,0⟩
 p:=fun u=>(u.1.1,u.1.2.1,(u.2.1.1.1,(u.2.1.1.2.1,u.2.1.1.2.2.1)))
 t:=fun u=>u.1.2.2.1
 n:=fun p t=>((p.1,(p.2.1,(t,()))),(((p.2.2.1,(p.2.2.2.1,(p.2.2.2.2,()))),()),()))
 st:=fun Y p t ki ke=>ask (V.inRange p.2.1 (List.length p.1)) (cond (decide (t<(nt (List.length (gx p.1 (Int.toNat p.2.1) [])))))
  (ask (V.inRange p.2.1 (List.length p.2.2.2.2)) (ask (V.inRange p.2.1 (List.length p.1)) (ask (V.inRange t (List.length (gx p.1 (Int.toNat p.2.1) []))) ((f65_m ((gx p.2.2.2.2 (Int.toNat p.2.1) dCongr),(gx (gx p.1 (Int.toNat p.2.1) []) (Int.toNat t) (0:Int)))).bind fun r1=>
  cond (!r1)
  (ke (.inl ()))
  (ki ((wi64 (t+(1:Int)))))))))
  (ke (.inr (()))))
 o:=fun Z p e K=>Sum.elim (fun e=>K .ret ⟨[(6,.v (.bool false))],[],⟨[],0⟩,0⟩) (fun e=>K (.exit 4) ⟨[(2,.v (.lit (.slice (.int .i64)) p.1)),(3,.loc 0 0),(8,.v (.int .i64 p.2.1))],[[.bool p.2.2.1,.lit cCongr p.2.2.2.1,.lit cCongr p.2.2.2.2]],⟨[],0⟩,0⟩) e
 pol:=⟨[2,3,8,9],[],[],[]⟩
 pe:=[(.ret,⟨[6],[],[],[]⟩),(.exit 4,⟨[2,3,8],[],[],[]⟩)]
def f29_l9:LD ((List (List Int))×TMods) (Int) ((Unit) ⊕ (Unit)) where
 sk:=⟨[(2,.v (.lit (.slice (.int .i64)))),(3,.loc 0 0),(8,.v (.int .i64))],[(.cons .bool (.cons (.lit cCongr) (.cons (.lit cCongr) .nil)))],[],0,0⟩
 p:=fun u=>(u.1.1,(u.2.1.1.1,(u.2.1.1.2.1,u.2.1.1.2.2.1)))
 t:=fun u=>u.1.2.1
 n:=fun p t=>((p.1,(t,())),(((p.2.1,(p.2.2.1,(p.2.2.2,()))),()),()))
 st:=fun Y p t ki ke=>cond (decide (t<(nt (List.length p.1))))
  ((loopAll (f29_l12.m (p.1,t,p.2)) 0).bind fun e1=>
  Sum.elim (fun e2=>ke (.inl ()))
  (fun e3=>ki ((wi64 (t+(1:Int))))) e1)
  (ke (.inr (())))
 o:=fun Z p e K=>Sum.elim (fun e=>K .ret ⟨[(6,.v (.bool false))],[],⟨[],0⟩,0⟩) (fun e=>K (.exit 2) ⟨[],[],⟨[],0⟩,0⟩) e
 pol:=⟨[2,3,8],[],[],[]⟩
 pe:=[(.ret,⟨[6],[],[],[]⟩),(.exit 2,⟨[],[],[],[]⟩)]
def f29_c {X:Type} (a:TMods×(List Int)×(List (List Int))) (K:Bool→Option X):Option X:=
 cond (!a.1.1)
 (K false)
 (cond (!(decide ((nt (List.length a.2.1))=(nt (List.length a.1.2.1)))))
 (K false)
 (cond (!(decide ((nt (List.length a.2.2))=(nt (List.length a.1.2.2)))))
 (K false)
 ((loopAll (f29_l4.m (a.2,a.1)) 0).bind fun e1=>
 Sum.elim (fun e2=>K false)
 (fun e3=>(loopAll (f29_l9.m (a.2.2,a.1)) 0).bind fun e4=>
 Sum.elim (fun e5=>K false)
 (fun e6=>K true) e4) e1)))
def f29_m (a:TMods×(List Int)×(List (List Int))):Option (Bool):=f29_c a some
def f29_sp:Spec:=f29_s.sp f29_m
noncomputable def f29_e:Env:=⟨fun k=>[].contains k,callsL [(65,f65_sp)],fun X k s K=>if k=4 then f29_l4.q X s K else if k=12 then f29_l12.q X s K else if k=9 then f29_l9.q X s K else none⟩
noncomputable def f29_l4_c:Code:=subAt [1,1,0,1,0,0] (bodyOf Tryz.f29)
theorem f29_l4_ok {C:V.Callee} (hc:SimCall C f29_e.call):LoopSim f29_e.loop (vc par C true [3] 75) (.loop f29_l4_c):=
 loop_form glob_ok hc (lp_of (by kernel_rfl) lp_nil) f29_l4 (by kernel_rfl) (by intros;simp only [f29_l4,LD.m,n1,n2,n3,n4,n5,n6,n7,n8]) (fun _ _=>by kernel_rfl) (fun _=>rfl) (fun _ _ e _=>by rcases e with e|e<;>rfl) (fun _ _ _=>by kernel_rfl)
noncomputable def f29_l12_c:Code:=subAt [1,1,1,0,1,0,0,1,0,0,1,0,0] (bodyOf Tryz.f29)
theorem f29_l12_ok {C:V.Callee} (hc:SimCall C f29_e.call):LoopSim f29_e.loop (vc par C true [3] 75) (.loop f29_l12_c):=
 loop_form glob_ok hc (lp_of (by kernel_rfl) lp_nil) f29_l12 (by kernel_rfl) (by intros;simp only [f29_l12,LD.m,n1,n2,n3,n4,n5,n6,n7,n8]) (fun _ _=>by kernel_rfl) (fun _=>rfl) (fun _ _ e _=>by rcases e with e|e<;>rfl) (fun _ _ _=>by kernel_rfl)
noncomputable def f29_l9_c:Code:=subAt [1,1,1,0,1,0,0] (bodyOf Tryz.f29)
theorem f29_l9_ok {C:V.Callee} (hc:SimCall C f29_e.call):LoopSim f29_e.loop (vc par C true [3] 75) (.loop f29_l9_c):=
 loop_form glob_ok hc (lp_of (by kernel_rfl) (lp_cons (f29_l12_ok hc) lp_nil)) f29_l9 (by kernel_rfl) (by intros;simp only [f29_l9,LD.m,n1,n2,n3,n4,n5,n6,n7,n8]) (fun _ _=>by kernel_rfl) (fun _=>rfl) (fun _ _ e _=>by rcases e with e|e<;>rfl) (fun _ _ _=>by kernel_rfl)
theorem f29_ok:OK (2) 29 (f29_s.sp f29_m):=
 fnOK (d:=1) (env:=f29_e) (callsL_sim (cc f65_ok cn)) (fn:=Tryz.f29) (locs:=[3]) (sh:= .any) (fz:=false) (by kernel_rfl) (fun hc=>(lp_of (by kernel_rfl) (lp_cons (f29_l4_ok hc) (lp_cons (f29_l9_ok hc) lp_nil)))) (mc:=fun X a K=>f29_c a K) (fun _ _ _=>by kernel_rfl) (by intros;simp only [f29_m,f29_c,n1,n2,n3,n4,n5,n6,n7,n8]) (fun _=>rfl)
def f160_s:FS (Int) (Int) where
 sk:=⟨(.cons (.int .i64) .nil),[],0⟩
 a:=fun u=>u.1.1
 n:=fun a=>((a,()),())
 o:=fun Z a r K=>K (.int .i64 r) ⟨[],0⟩
def f160_c {X:Type} (a:Int) (K:Int→Option X):Option X:=
 cond (decide (a<(-4611686018427387904:Int)))
 (K (-4611686018427387904))
 (cond (decide ((4611686018427387904:Int)<a))
 (K 4611686018427387904)
 (K a))
def f160_m (a:Int):Option (Int):=f160_c a some
def f160_sp:Spec:=f160_s.sp f160_m
noncomputable def f160_e:Env:=⟨fun k=>[].contains k,callsL [],fun X k s K=>none⟩
theorem f160_ok:OK (1) 160 (f160_s.sp f160_m):=
 fnOK (d:=0) (env:=f160_e) (callsL_sim cn) (fn:=Tryz.f160) (locs:=[]) (sh:= .any) (fz:=false) (by kernel_rfl) (fun hc=>(lp_of (by kernel_rfl) lp_nil)) (mc:=fun X a K=>f160_c a K) (fun _ _ _=>by kernel_rfl) (by intros;simp only [f160_m,f160_c,n1,n2,n3,n4,n5,n6,n7,n8]) (fun _=>rfl)
def f161_s:FS (Int) (Int) where
 sk:=⟨(.cons (.int .i64) .nil),[],0⟩
 a:=fun u=>u.1.1
 n:=fun a=>((a,()),())
 o:=fun Z a r K=>K (.int .u64 r) ⟨[],0⟩
def f161_c {X:Type} (a:Int) (K:Int→Option X):Option X:=
 cond (decide (a<(0:Int)))
 (K (wu64 (wi64 ((0:Int)-a))))
 (K (wu64 a))
def f161_m (a:Int):Option (Int):=f161_c a some
def f161_sp:Spec:=f161_s.sp f161_m
noncomputable def f161_e:Env:=⟨fun k=>[].contains k,callsL [],fun X k s K=>none⟩
theorem f161_ok:OK (1) 161 (f161_s.sp f161_m):=
 fnOK (d:=0) (env:=f161_e) (callsL_sim cn) (fn:=Tryz.f161) (locs:=[]) (sh:= .any) (fz:=false) (by kernel_rfl) (fun hc=>(lp_of (by kernel_rfl) lp_nil)) (mc:=fun X a K=>f161_c a K) (fun _ _ _=>by kernel_rfl) (by intros;simp only [f161_m,f161_c,n1,n2,n3,n4,n5,n6,n7,n8]) (fun _=>rfl)
def f121_s:FS (Int) (ByteArray) where
 sk:=⟨(.cons (.int .i64) .nil),[],0⟩
 a:=fun u=>u.1.1
 n:=fun a=>((a,()),())
 o:=fun Z a r K=>K (.str r) ⟨[],0⟩
def f121_l8:LD (Int) (Int×(List Int)) ((List Int)) where
 sk:=⟨[(0,.v (.int .i64)),(3,.v (.all 0)),(4,.v (.int .u64))],[],[.cells (.int .u8)],0,0⟩
 p:=fun u=>u.1.1
 t:=fun u=>(u.1.2.2.1,u.2.2.1)
 n:=fun p t=>((p,((),(t.1,()))),((),(t.2,())))
 st:=fun Y p t ki ke=>ask (decide (((List.length ([(wu8 (wu64 ((48:Int)+(Int.tmod t.1 10))))]:List Int))+(List.length t.2)) * 1≤70368744177664)&&decide (((List.length ([(wu8 (wu64 ((48:Int)+(Int.tmod t.1 10))))]:List Int))+(List.length t.2))<9223372036854775808)) (cond (decide ((wu64 (Int.tdiv t.1 10))=(0:Int)))
  (ke ((([(wu8 (wu64 ((48:Int)+(Int.tmod t.1 10))))]:List Int)++t.2)))
  (ki ((wu64 (Int.tdiv t.1 10)),(([(wu8 (wu64 ((48:Int)+(Int.tmod t.1 10))))]:List Int)++t.2))))
 o:=fun Z p e K=>K (.exit 0) ⟨[(0,.v (.int .i64 p)),(3,.v (.all 0))],[],⟨[.cells (.int .u8) e],0⟩,0⟩
 pol:=⟨[0,3,4],[(3,(.own (.int .u8)))],[],[]⟩
 pe:=[(.exit 0,⟨[0,3],[],[],[]⟩)]
def f121_c {X:Type} (a:Int) (K:ByteArray→Option X):Option X:=
 (f160_m a).bind fun r1=>
 cond (decide (r1=(4611686018427387904:Int)))
 (K (str [105,110,102]))
 (cond (decide (r1=(-4611686018427387904:Int)))
 (K (str [45,105,110,102]))
 ((f161_m r1).bind fun r2=>
 (loopAll (f121_l8.m r1) (r2,[])).bind fun e3=>
 cond (decide (r1<(0:Int)))
 (ask (decide (((List.length ([45]:List Int))+(List.length e3)) * 1≤70368744177664)&&decide (((List.length ([45]:List Int))+(List.length e3))<9223372036854775808)) (K (byts (([45]:List Int)++e3))))
 (K (byts e3))))
def f121_m (a:Int):Option (ByteArray):=f121_c a some
def f121_sp:Spec:=f121_s.sp f121_m
noncomputable def f121_e:Env:=⟨fun k=>[].contains k,callsL [(160,f160_sp),(161,f161_sp)],fun X k s K=>if k=8 then f121_l8.q X s K else none⟩
noncomputable def f121_l8_c:Code:=subAt [1,1,1,1,1,1,0,0,0] (bodyOf Tryz.f121)
theorem f121_l8_ok {C:V.Callee} (hc:SimCall C f121_e.call):LoopSim f121_e.loop (vc par C true [] 31) (.loop f121_l8_c):=
 loop_form glob_ok hc (lp_of (by kernel_rfl) lp_nil) f121_l8 (by kernel_rfl) (by intros;simp only [f121_l8,LD.m,n1,n2,n3,n4,n5,n6,n7,n8]) (fun _ _=>by kernel_rfl) (fun _=>rfl) (fun _ _ _ _=>rfl) (fun _ _ _=>by kernel_rfl)
theorem f121_ok:OK (2) 121 (f121_s.sp f121_m):=
 fnOK (d:=1) (env:=f121_e) (callsL_sim (cc f160_ok (cc f161_ok cn))) (fn:=Tryz.f121) (locs:=[]) (sh:= .any) (fz:=false) (by kernel_rfl) (fun hc=>(lp_of (by kernel_rfl) (lp_cons (f121_l8_ok hc) lp_nil))) (mc:=fun X a K=>f121_c a K) (fun _ _ _=>by kernel_rfl) (by intros;simp only [f121_m,f121_c,n1,n2,n3,n4,n5,n6,n7,n8]) (fun _=>rfl)
def f69_s:FS (TCongr) (ByteArray) where
 sk:=⟨(.cons (.agg (.cons .bool (.cons (.int .i64) (.cons (.int .i64) .nil)))) .nil),[],0⟩
 a:=fun u=>(u.1.1.1,(u.1.1.2.1,u.1.1.2.2.1))
 n:=fun a=>(((a.1,(a.2.1,(a.2.2,()))),()),())
 o:=fun Z a r K=>K (.str r) ⟨[],0⟩
def f69_c {X:Type} (a:TCongr) (K:ByteArray→Option X):Option X:=
 cond a.1
 (K (str [110,111,110,101]))
 (cond (decide (a.2.1=(0:Int)))
 ((f121_m a.2.2).bind fun r1=>
 K r1)
 (cond (decide (a.2.1=(1:Int)))
 (K (str [97,108,108]))
 ((f121_m a.2.2).bind fun r2=>
 ask (decide (ByteArray.size r2+ByteArray.size (str [32,109,111,100,32])≤9223372036854775807)) ((f121_m a.2.1).bind fun r3=>
 ask (decide (ByteArray.size (r2++(str [32,109,111,100,32]))+ByteArray.size r3≤9223372036854775807)) (K ((r2++(str [32,109,111,100,32]))++r3))))))
def f69_m (a:TCongr):Option (ByteArray):=f69_c a some
def f69_sp:Spec:=f69_s.sp f69_m
noncomputable def f69_e:Env:=⟨fun k=>[].contains k,callsL [(121,f121_sp)],fun X k s K=>none⟩
theorem f69_ok:OK (3) 69 (f69_s.sp f69_m):=
 fnOK (d:=2) (env:=f69_e) (callsL_sim (cc f121_ok cn)) (fn:=Tryz.f69) (locs:=[1]) (sh:= .any) (fz:=false) (by kernel_rfl) (fun hc=>(lp_of (by kernel_rfl) lp_nil)) (mc:=fun X a K=>f69_c a K) (fun _ _ _=>by kernel_rfl) (by intros;simp only [f69_m,f69_c,n1,n2,n3,n4,n5,n6,n7,n8]) (fun _=>rfl)
def f31_s:FS (TGraph×TMods) (ByteArray) where
 sk:=⟨(.cons (.agg (.cons (.lit cInstr) (.cons (.int .i64) (.cons (.int .i64) (.cons (.int .i64) (.cons (.lit cArray) (.cons (.lit cScalar) (.cons (.lit cArray) (.cons (.lit cItv) .nil))))))))) (.cons (.agg (.cons .bool (.cons (.lit cCongr) (.cons (.lit cCongr) .nil)))) .nil)),[],0⟩
 a:=fun u=>((u.1.1.1,(u.1.1.2.1,(u.1.1.2.2.1,(u.1.1.2.2.2.1,(u.1.1.2.2.2.2.1,(u.1.1.2.2.2.2.2.1,(u.1.1.2.2.2.2.2.2.1,u.1.1.2.2.2.2.2.2.2.1))))))),(u.1.2.1.1,(u.1.2.1.2.1,u.1.2.1.2.2.1)))
 n:=fun a=>(((a.1.1,(a.1.2.1,(a.1.2.2.1,(a.1.2.2.2.1,(a.1.2.2.2.2.1,(a.1.2.2.2.2.2.1,(a.1.2.2.2.2.2.2.1,(a.1.2.2.2.2.2.2.2,())))))))),((a.2.1,(a.2.2.1,(a.2.2.2,()))),())),())
 o:=fun Z a r K=>K (.str r) ⟨[],0⟩
def f31_l5:LD ((TGraph×TMods)) (ByteArray×Int) (ByteArray) where
 sk:=⟨[(2,.loc 0 0),(3,.loc 1 0),(5,.v .str),(6,.v (.int .i64))],[(.cons (.lit cInstr) (.cons (.int .i64) (.cons (.int .i64) (.cons (.int .i64) (.cons (.lit cArray) (.cons (.lit cScalar) (.cons (.lit cArray) (.cons (.lit cItv) .nil)))))))),(.cons .bool (.cons (.lit cCongr) (.cons (.lit cCongr) .nil)))],[],0,0⟩
 p:=fun u=>((u.2.1.1.1,(u.2.1.1.2.1,(u.2.1.1.2.2.1,(u.2.1.1.2.2.2.1,(u.2.1.1.2.2.2.2.1,(u.2.1.1.2.2.2.2.2.1,(u.2.1.1.2.2.2.2.2.2.1,u.2.1.1.2.2.2.2.2.2.2.1))))))),(u.2.1.2.1.1,(u.2.1.2.1.2.1,u.2.1.2.1.2.2.1)))
 t:=fun u=>(u.1.1,u.1.2.1)
 n:=fun p t=>((t.1,(t.2,())),(((p.1.1,(p.1.2.1,(p.1.2.2.1,(p.1.2.2.2.1,(p.1.2.2.2.2.1,(p.1.2.2.2.2.2.1,(p.1.2.2.2.2.2.2.1,(p.1.2.2.2.2.2.2.2,())))))))),((p.2.1,(p.2.2.1,(p.2.2.2,()))),())),()))
 st:=fun Y p t ki ke=>cond (decide (t.2<(nt (List.length p.2.2.1))))
  (ask (V.inRange t.2 (List.length p.1.2.2.2.2.2.1)) (ask (decide (ByteArray.size t.1+ByteArray.size (gx p.1.2.2.2.2.2.1 (Int.toNat t.2) dScalar).1≤9223372036854775807)) (ask (decide (ByteArray.size (t.1++(gx p.1.2.2.2.2.2.1 (Int.toNat t.2) dScalar).1)+ByteArray.size (str [32,105,115,32])≤9223372036854775807)) (ask (V.inRange t.2 (List.length p.2.2.1)) ((f69_m (gx p.2.2.1 (Int.toNat t.2) dCongr)).bind fun r1=>
  ask (decide (ByteArray.size ((t.1++(gx p.1.2.2.2.2.2.1 (Int.toNat t.2) dScalar).1)++(str [32,105,115,32]))+ByteArray.size r1≤9223372036854775807)) (ask (decide (ByteArray.size (((t.1++(gx p.1.2.2.2.2.2.1 (Int.toNat t.2) dScalar).1)++(str [32,105,115,32]))++r1)+ByteArray.size (str [10])≤9223372036854775807)) (ki (((((t.1++(gx p.1.2.2.2.2.2.1 (Int.toNat t.2) dScalar).1)++(str [32,105,115,32]))++r1)++(str [10])),(wi64 (t.2+(1:Int)))))))))))
  (ke (t.1))
 o:=fun Z p e K=>K (.exit 0) ⟨[(2,.loc 0 0),(3,.loc 1 0),(5,.v (.str e))],[[.lit cInstr p.1.1,.int .i64 p.1.2.1,.int .i64 p.1.2.2.1,.int .i64 p.1.2.2.2.1,.lit cArray p.1.2.2.2.2.1,.lit cScalar p.1.2.2.2.2.2.1,.lit cArray p.1.2.2.2.2.2.2.1,.lit cItv p.1.2.2.2.2.2.2.2],[.bool p.2.1,.lit cCongr p.2.2.1,.lit cCongr p.2.2.2]],⟨[],0⟩,0⟩
 pol:=⟨[2,3,5,6],[],[],[]⟩
 pe:=[(.exit 0,⟨[2,3,5],[],[],[]⟩)]
def f31_l9:LD ((TGraph×TMods)) (ByteArray×Int) (ByteArray) where
 sk:=⟨[(2,.loc 0 0),(3,.loc 1 0),(5,.v .str),(7,.v (.int .i64))],[(.cons (.lit cInstr) (.cons (.int .i64) (.cons (.int .i64) (.cons (.int .i64) (.cons (.lit cArray) (.cons (.lit cScalar) (.cons (.lit cArray) (.cons (.lit cItv) .nil)))))))),(.cons .bool (.cons (.lit cCongr) (.cons (.lit cCongr) .nil)))],[],0,0⟩
 p:=fun u=>((u.2.1.1.1,(u.2.1.1.2.1,(u.2.1.1.2.2.1,(u.2.1.1.2.2.2.1,(u.2.1.1.2.2.2.2.1,(u.2.1.1.2.2.2.2.2.1,(u.2.1.1.2.2.2.2.2.2.1,u.2.1.1.2.2.2.2.2.2.2.1))))))),(u.2.1.2.1.1,(u.2.1.2.1.2.1,u.2.1.2.1.2.2.1)))
 t:=fun u=>(u.1.1,u.1.2.1)
 n:=fun p t=>((t.1,(t.2,())),(((p.1.1,(p.1.2.1,(p.1.2.2.1,(p.1.2.2.2.1,(p.1.2.2.2.2.1,(p.1.2.2.2.2.2.1,(p.1.2.2.2.2.2.2.1,(p.1.2.2.2.2.2.2.2,())))))))),((p.2.1,(p.2.2.1,(p.2.2.2,()))),())),()))
 st:=fun Y p t ki ke=>cond (decide (t.2<(nt (List.length p.2.2.2))))
  (ask (V.inRange t.2 (List.length p.1.2.2.2.2.2.2.1)) (ask (decide (ByteArray.size t.1+ByteArray.size (gx p.1.2.2.2.2.2.2.1 (Int.toNat t.2) dArray).1≤9223372036854775807)) (ask (decide (ByteArray.size (t.1++(gx p.1.2.2.2.2.2.2.1 (Int.toNat t.2) dArray).1)+ByteArray.size (str [91,93,32,105,115,32])≤9223372036854775807)) (ask (V.inRange t.2 (List.length p.2.2.2)) ((f69_m (gx p.2.2.2 (Int.toNat t.2) dCongr)).bind fun r1=>
  ask (decide (ByteArray.size ((t.1++(gx p.1.2.2.2.2.2.2.1 (Int.toNat t.2) dArray).1)++(str [91,93,32,105,115,32]))+ByteArray.size r1≤9223372036854775807)) (ask (decide (ByteArray.size (((t.1++(gx p.1.2.2.2.2.2.2.1 (Int.toNat t.2) dArray).1)++(str [91,93,32,105,115,32]))++r1)+ByteArray.size (str [10])≤9223372036854775807)) (ki (((((t.1++(gx p.1.2.2.2.2.2.2.1 (Int.toNat t.2) dArray).1)++(str [91,93,32,105,115,32]))++r1)++(str [10])),(wi64 (t.2+(1:Int)))))))))))
  (ke (t.1))
 o:=fun Z p e K=>K (.exit 2) ⟨[(5,.v (.str e))],[],⟨[],0⟩,0⟩
 pol:=⟨[2,3,5,7],[],[],[]⟩
 pe:=[(.exit 2,⟨[5],[],[],[]⟩)]
def f31_c {X:Type} (a:TGraph×TMods) (K:ByteArray→Option X):Option X:=
 cond (!a.2.1)
 (K (str [98,111,116,116,111,109,10]))
 ((loopAll (f31_l5.m a) ((str []),0)).bind fun e1=>
 (loopAll (f31_l9.m a) (e1,0)).bind fun e2=>
 K e2)
def f31_m (a:TGraph×TMods):Option (ByteArray):=f31_c a some
def f31_sp:Spec:=f31_s.sp f31_m
noncomputable def f31_e:Env:=⟨fun k=>[].contains k,callsL [(69,f69_sp)],fun X k s K=>if k=5 then f31_l5.q X s K else if k=9 then f31_l9.q X s K else none⟩
noncomputable def f31_l5_c:Code:=subAt [1,1,1,0,1,0,0] (bodyOf Tryz.f31)
theorem f31_l5_ok {C:V.Callee} (hc:SimCall C f31_e.call):LoopSim f31_e.loop (vc par C true [2,3] 60) (.loop f31_l5_c):=
 loop_form glob_ok hc (lp_of (by kernel_rfl) lp_nil) f31_l5 (by kernel_rfl) (by intros;simp only [f31_l5,LD.m,n1,n2,n3,n4,n5,n6,n7,n8]) (fun _ _=>by kernel_rfl) (fun _=>rfl) (fun _ _ _ _=>rfl) (fun _ _ _=>by kernel_rfl)
noncomputable def f31_l9_c:Code:=subAt [1,1,1,1,0,1,0,0] (bodyOf Tryz.f31)
theorem f31_l9_ok {C:V.Callee} (hc:SimCall C f31_e.call):LoopSim f31_e.loop (vc par C true [2,3] 60) (.loop f31_l9_c):=
 loop_form glob_ok hc (lp_of (by kernel_rfl) lp_nil) f31_l9 (by kernel_rfl) (by intros;simp only [f31_l9,LD.m,n1,n2,n3,n4,n5,n6,n7,n8]) (fun _ _=>by kernel_rfl) (fun _=>rfl) (fun _ _ _ _=>rfl) (fun _ _ _=>by kernel_rfl)
theorem f31_ok:OK (4) 31 (f31_s.sp f31_m):=
 fnOK (d:=3) (env:=f31_e) (callsL_sim (cc f69_ok cn)) (fn:=Tryz.f31) (locs:=[2,3]) (sh:= .any) (fz:=false) (by kernel_rfl) (fun hc=>(lp_of (by kernel_rfl) (lp_cons (f31_l5_ok hc) (lp_cons (f31_l9_ok hc) lp_nil)))) (mc:=fun X a K=>f31_c a K) (fun _ _ _=>by kernel_rfl) (by intros;simp only [f31_m,f31_c,n1,n2,n3,n4,n5,n6,n7,n8]) (fun _=>rfl)
def f8_s:FS (TGraph×TMods×(List Int)×(List (List Int))) (Bool) where
 sk:=⟨(.cons (.agg (.cons (.lit cInstr) (.cons (.int .i64) (.cons (.int .i64) (.cons (.int .i64) (.cons (.lit cArray) (.cons (.lit cScalar) (.cons (.lit cArray) (.cons (.lit cItv) .nil))))))))) (.cons (.agg (.cons .bool (.cons (.lit cCongr) (.cons (.lit cCongr) .nil)))) (.cons (.lit (.int .i64)) (.cons (.lit (.slice (.int .i64))) .nil)))),[],0⟩
 a:=fun u=>((u.1.1.1,(u.1.1.2.1,(u.1.1.2.2.1,(u.1.1.2.2.2.1,(u.1.1.2.2.2.2.1,(u.1.1.2.2.2.2.2.1,(u.1.1.2.2.2.2.2.2.1,u.1.1.2.2.2.2.2.2.2.1))))))),(u.1.2.1.1,(u.1.2.1.2.1,u.1.2.1.2.2.1)),u.1.2.2.1,u.1.2.2.2.1)
 n:=fun a=>(((a.1.1,(a.1.2.1,(a.1.2.2.1,(a.1.2.2.2.1,(a.1.2.2.2.2.1,(a.1.2.2.2.2.2.1,(a.1.2.2.2.2.2.2.1,(a.1.2.2.2.2.2.2.2,())))))))),((a.2.1.1,(a.2.1.2.1,(a.2.1.2.2,()))),(a.2.2.1,(a.2.2.2,())))),())
 o:=fun Z a r K=>K (.bool r) ⟨[],0⟩
def f8_c {X:Type} (a:TGraph×TMods×(List Int)×(List (List Int))) (K:Bool→Option X):Option X:=
 (f10_m a.1).bind fun r1=>
 cond (!r1)
 ((f12_m ()).bind fun r2=>
 K r2)
 ((f11_m (a.1,a.2.1)).bind fun r3=>
 cond (!r3)
 ((f12_m ()).bind fun r4=>
 K r4)
 ((f28_m (a.2.1,a.2.2.1,a.2.2.2)).bind fun r5=>
 (f29_m (a.2.1,a.2.2.1,a.2.2.2)).bind fun r6=>
 cond (r5==r6)
 ((f30_m (a.1,a.2.1)).bind fun r7=>
 (f31_m (a.1,a.2.1)).bind fun r8=>
 cond (r7.toList==r8.toList)
 ((f12_m ()).bind fun r9=>
 K r9)
 (K false))
 (K false)))
def f8_m (a:TGraph×TMods×(List Int)×(List (List Int))):Option (Bool):=f8_c a some
def f8_sp:Spec:=f8_s.sp f8_m
noncomputable def f8_e:Env:=⟨fun k=>[].contains k,callsL [(10,f10_sp),(12,f12_sp),(11,f11_sp),(28,f28_sp),(29,f29_sp),(30,f30_sp),(31,f31_sp)],fun X k s K=>none⟩
theorem f8_ok:OK (166020696663385964549) 8 (f8_s.sp f8_m):=
 fnOK (d:=166020696663385964548) (env:=f8_e) (callsL_sim (cc f10_ok (cc f12_ok (cc f11_ok (cc f28_ok (cc f29_ok (cc f30_ok (cc f31_ok cn)))))))) (fn:=Tryz.f8) (locs:=[4,5]) (sh:= .any) (fz:=false) (by kernel_rfl) (fun hc=>(lp_of (by kernel_rfl) lp_nil)) (mc:=fun X a K=>f8_c a K) (fun _ _ _=>by kernel_rfl) (by intros;simp only [f8_m,f8_c,n1,n2,n3,n4,n5,n6,n7,n8]) (fun _=>rfl)
end
end Go.U
end
