/- The functions of the program as Lean functions, and that the evaluator says so. -/
import Derived.Test.YtcbcifeaalkdfaaGreatDoorC7
set_option linter.unusedVariables false
set_option linter.unusedSimpArgs false
set_option linter.unusedSectionVars false
section
set_option maxRecDepth 100000
namespace Go.U
open Go Go.Proofs
noncomputable section
variable {C:V.Callee}
def f19_s:FS (TGraph×TMods×Int×Int) (TMods) where
 sk:=⟨(.cons (.agg kG) (.cons (.agg kM) kI)),[],0⟩
 a:=fun u=>((q8 u.1.1),(q3 u.1.2.1),u.1.2.2.1,u.1.2.2.2.1)
 n:=fun a=>(((w8 a.1),((w3 a.2.1),(a.2.2.1,(a.2.2.2,())))),())
 o:=fun Z a r K=>K (.agg [.bool r.1,.lit cCongr r.2.1,.lit cCongr r.2.2]) ⟨[],0⟩
def f19_r1:PD (TItv×TGraph×TMods×Bool) (Bool) where
 sk:=⟨[(2,.v (.int .i64)),(3,.v (.int .i64)),(4,.loc 0 0),(5,.loc 1 0),(8,.loc 2 0)],[kG,kM,(.cons .bool (.cons .nils (.cons .nils .nil)))],[],0,0⟩
 p:=fun u=>((u.1.1,u.1.2.1),(q8 u.2.1.1),(q3 u.2.1.2.1),u.2.1.2.2.1.1)
 n:=fun p=>((p.1.1,(p.1.2,())),(((w8 p.2.1),((w3 p.2.2.1),((p.2.2.2,((),((),()))),()))),()))
 st:=fun Y p ke=>cond (!p.2.2.1.1)
  (ke (true))
  (cond (decide (p.1.2<(0:Int)))
  (ke (true))
  (cond (decide ((1:Int)<p.1.2))
  (ke (true))
  (ask (V.inRange p.1.1 (List.length p.2.1.1)) (cond (decide (p.1.2=(0:Int)))
  (ke ((decide ((gx p.2.1.1 (Int.toNat p.1.1) dInstr).2.2.2.2.2.2.1=(-1:Int)))))
  (cond (decide (p.1.2=(1:Int)))
  (ke ((decide ((gx p.2.1.1 (Int.toNat p.1.1) dInstr).2.2.2.2.2.2.2=(-1:Int)))))
  (none))))))
 o:=fun Z p e K=>K .normal ⟨[(2,.v (.int .i64 p.1.1)),(3,.v (.int .i64 p.1.2)),(4,.loc 0 0),(5,.loc 1 0),(8,.loc 2 0),(36,.v (.bool e))],[[.lit cInstr p.2.1.1,.int .i64 p.2.1.2.1,.int .i64 p.2.1.2.2.1,.int .i64 p.2.1.2.2.2.1,.lit cArray p.2.1.2.2.2.2.1,.lit cScalar p.2.1.2.2.2.2.2.1,.lit cArray p.2.1.2.2.2.2.2.2.1,.lit cItv p.2.1.2.2.2.2.2.2.2],[.bool p.2.2.1.1,.lit cCongr p.2.2.1.2.1,.lit cCongr p.2.2.1.2.2],[.bool p.2.2.2,.nils,.nils]],⟨[],0⟩,0⟩
 pol:=⟨[2,3,4,5,8],[],[],[]⟩
 pe:=[(.normal,⟨[2,3,4,5,8,36],[],[],[]⟩)]
def f19_r5:PD (Int×(List TCongr)×TGraph×TMods×Bool×TInstr) (Bool) where
 sk:=⟨[(3,.v (.int .i64)),(4,.loc 0 0),(5,.loc 1 0),(8,.loc 2 0),(9,.loc 3 0),(10,.v (.lit cCongr))],[kG,kM,(.cons .bool (.cons .nils (.cons .nils .nil))),kN],[],0,0⟩
 p:=fun u=>(u.1.1,u.1.2.1,(q8 u.2.1.1),(q3 u.2.1.2.1),u.2.1.2.2.1.1,(q8 u.2.1.2.2.2.1))
 n:=fun p=>((p.1,(p.2.1,())),(((w8 p.2.2.1),((w3 p.2.2.2.1),((p.2.2.2.2.1,((),((),()))),((w8 p.2.2.2.2.2),())))),()))
 st:=fun Y p ke=>cond (decide ((2:Int)<=p.2.2.2.2.2.1))
  (cond (decide (p.2.2.2.2.2.1<=(8:Int)))
  (ask (V.inRange p.2.2.2.2.2.2.1 (List.length p.2.1)) (ke ((gx p.2.1 (Int.toNat p.2.2.2.2.2.2.1) dCongr).1)))
  (ke (false)))
  (ke (false))
 o:=fun Z p e K=>K .normal ⟨[(3,.v (.int .i64 p.1)),(4,.loc 0 0),(5,.loc 1 0),(8,.loc 2 0),(9,.loc 3 0),(10,.v (.lit cCongr p.2.1)),(61,.v (.bool e))],[[.lit cInstr p.2.2.1.1,.int .i64 p.2.2.1.2.1,.int .i64 p.2.2.1.2.2.1,.int .i64 p.2.2.1.2.2.2.1,.lit cArray p.2.2.1.2.2.2.2.1,.lit cScalar p.2.2.1.2.2.2.2.2.1,.lit cArray p.2.2.1.2.2.2.2.2.2.1,.lit cItv p.2.2.1.2.2.2.2.2.2.2],[.bool p.2.2.2.1.1,.lit cCongr p.2.2.2.1.2.1,.lit cCongr p.2.2.2.1.2.2],[.bool p.2.2.2.2.1,.nils,.nils],[.int .i64 p.2.2.2.2.2.1,.int .i64 p.2.2.2.2.2.2.1,.int .i64 p.2.2.2.2.2.2.2.1,.int .i64 p.2.2.2.2.2.2.2.2.1,.int .i64 p.2.2.2.2.2.2.2.2.2.1,.int .i64 p.2.2.2.2.2.2.2.2.2.2.1,.int .i64 p.2.2.2.2.2.2.2.2.2.2.2.1,.int .i64 p.2.2.2.2.2.2.2.2.2.2.2.2]],⟨[],0⟩,0⟩
 pol:=⟨[3,4,5,8,9,10],[],[],[]⟩
 pe:=[(.normal,⟨[3,4,5,8,9,10,61],[],[],[]⟩)]
def f19_c8:PD (Int×(List TCongr)×Bool×TGraph×TMods×Bool×TInstr) ((Unit) ⊕ ((List TCongr))) where
 sk:=⟨[(3,.v (.int .i64)),(4,.loc 0 0),(5,.loc 1 0),(8,.loc 2 0),(9,.loc 3 0),(10,.v (.lit cCongr)),(65,.v .bool)],[kG,kM,(.cons .bool (.cons .nils (.cons .nils .nil))),kN],[],0,0⟩
 p:=fun u=>(u.1.1,u.1.2.1,u.1.2.2.1,(q8 u.2.1.1),(q3 u.2.1.2.1),u.2.1.2.2.1.1,(q8 u.2.1.2.2.2.1))
 n:=fun p=>((p.1,(p.2.1,(p.2.2.1,()))),(((w8 p.2.2.2.1),((w3 p.2.2.2.2.1),((p.2.2.2.2.2.1,((),((),()))),((w8 p.2.2.2.2.2.2),())))),()))
 st:=fun Y p ke=>cond p.2.2.1
  (ask (V.inRange p.2.2.2.2.2.2.2.2.1 (List.length p.2.1)) (ask (V.inRange p.2.2.2.2.2.2.2.1 (List.length p.2.2.2.1.2.2.2.2.2.1)) ((f54_m (gx p.2.2.2.1.2.2.2.2.2.1 (Int.toNat p.2.2.2.2.2.2.2.1) dScalar).2.1).bind fun r1=>
  (f53_m ((gx p.2.1 (Int.toNat p.2.2.2.2.2.2.2.2.1) dCongr),r1)).bind fun r2=>
  cond r2.1.1
  (ke (.inl ()))
  ((f55_m (p.2.2.2.2.1.2.1,p.2.2.2.2.2.2.2.1,r2.1)).bind fun r3=>
  ke (.inr (r3))))))
  (ke (.inr (p.2.2.2.2.1.2.1)))
 o:=fun Z p e K=>Sum.elim (fun e=>K .ret ⟨[(8,.loc 0 0)],[[.bool false,.nils,.nils]],⟨[],0⟩,0⟩) (fun e=>K .normal ⟨[(3,.v (.int .i64 p.1)),(4,.loc 0 0),(5,.loc 1 0),(8,.loc 2 0),(9,.loc 3 0),(10,.v (.lit cCongr p.2.1))],[[.lit cInstr p.2.2.2.1.1,.int .i64 p.2.2.2.1.2.1,.int .i64 p.2.2.2.1.2.2.1,.int .i64 p.2.2.2.1.2.2.2.1,.lit cArray p.2.2.2.1.2.2.2.2.1,.lit cScalar p.2.2.2.1.2.2.2.2.2.1,.lit cArray p.2.2.2.1.2.2.2.2.2.2.1,.lit cItv p.2.2.2.1.2.2.2.2.2.2.2],[.bool p.2.2.2.2.1.1,.lit cCongr e,.lit cCongr p.2.2.2.2.1.2.2],[.bool p.2.2.2.2.2.1,.nils,.nils],[.int .i64 p.2.2.2.2.2.2.1,.int .i64 p.2.2.2.2.2.2.2.1,.int .i64 p.2.2.2.2.2.2.2.2.1,.int .i64 p.2.2.2.2.2.2.2.2.2.1,.int .i64 p.2.2.2.2.2.2.2.2.2.2.1,.int .i64 p.2.2.2.2.2.2.2.2.2.2.2.1,.int .i64 p.2.2.2.2.2.2.2.2.2.2.2.2.1,.int .i64 p.2.2.2.2.2.2.2.2.2.2.2.2.2]],⟨[],0⟩,0⟩) e
 pol:=⟨[3,4,5,8,9,10,65],[],[],[]⟩
 pe:=[(.ret,⟨[8],[],[],[]⟩),(.normal,⟨[3,4,5,8,9,10],[],[],[]⟩)]
def f19_c17:PD (Int×(List TCongr)×Bool×(TGraph×(Bool×((List TCongr)×((List TCongr)×(Bool×TInstr)))))×TCongr) (Bool×Int×Int) where
 sk:=⟨[(3,.v (.int .i64)),(4,.loc 0 0),(5,.loc 1 0),(8,.loc 2 0),(9,.loc 3 0),(10,.v (.lit cCongr)),(13,.loc 4 0),(123,.v .bool)],[kG,kM,(.cons .bool (.cons .nils (.cons .nils .nil))),kN,kC],[],0,0⟩
 p:=fun u=>(u.1.1,u.1.2.1,u.1.2.2.1,((q8 u.2.1.1),(u.2.1.2.1.1,(u.2.1.2.1.2.1,(u.2.1.2.1.2.2.1,(u.2.1.2.2.1.1,(q8 u.2.1.2.2.2.1)))))),(q3 u.2.1.2.2.2.2.1))
 n:=fun p=>((p.1,(p.2.1,(p.2.2.1,()))),(((w8 p.2.2.2.1.1),((p.2.2.2.1.2.1,(p.2.2.2.1.2.2.1,(p.2.2.2.1.2.2.2.1,()))),((p.2.2.2.1.2.2.2.2.1,((),((),()))),((w8 p.2.2.2.1.2.2.2.2.2),((w3 p.2.2.2.2),()))))),()))
 st:=fun Y p ke=>cond p.2.2.1
  (ask (V.inRange p.2.2.2.1.2.2.2.2.2.2.2.1 (List.length p.2.2.2.1.2.2.2.1)) ((f56_m ((gx p.2.2.2.1.2.2.2.1 (Int.toNat p.2.2.2.1.2.2.2.2.2.2.2.1) dCongr),p.2.2.2.2)).bind fun r1=>
  ke ((r1.1,r1.2.1,r1.2.2))))
  (ke ((p.2.2.2.2.1,p.2.2.2.2.2.1,p.2.2.2.2.2.2)))
 o:=fun Z p e K=>K .normal ⟨[(3,.v (.int .i64 p.1)),(4,.loc 0 0),(5,.loc 1 0),(8,.loc 2 0),(9,.loc 3 0),(10,.v (.lit cCongr p.2.1)),(13,.loc 4 0)],[[.lit cInstr p.2.2.2.1.1.1,.int .i64 p.2.2.2.1.1.2.1,.int .i64 p.2.2.2.1.1.2.2.1,.int .i64 p.2.2.2.1.1.2.2.2.1,.lit cArray p.2.2.2.1.1.2.2.2.2.1,.lit cScalar p.2.2.2.1.1.2.2.2.2.2.1,.lit cArray p.2.2.2.1.1.2.2.2.2.2.2.1,.lit cItv p.2.2.2.1.1.2.2.2.2.2.2.2],[.bool p.2.2.2.1.2.1,.lit cCongr p.2.2.2.1.2.2.1,.lit cCongr p.2.2.2.1.2.2.2.1],[.bool p.2.2.2.1.2.2.2.2.1,.nils,.nils],[.int .i64 p.2.2.2.1.2.2.2.2.2.1,.int .i64 p.2.2.2.1.2.2.2.2.2.2.1,.int .i64 p.2.2.2.1.2.2.2.2.2.2.2.1,.int .i64 p.2.2.2.1.2.2.2.2.2.2.2.2.1,.int .i64 p.2.2.2.1.2.2.2.2.2.2.2.2.2.1,.int .i64 p.2.2.2.1.2.2.2.2.2.2.2.2.2.2.1,.int .i64 p.2.2.2.1.2.2.2.2.2.2.2.2.2.2.2.1,.int .i64 p.2.2.2.1.2.2.2.2.2.2.2.2.2.2.2.2],[.bool e.1,.int .i64 e.2.1,.int .i64 e.2.2]],⟨[],0⟩,0⟩
 pol:=⟨[3,4,5,8,9,10,13,123],[],[],[]⟩
 pe:=[(.normal,⟨[3,4,5,8,9,10,13],[],[],[]⟩)]
def f19_c13:PD (Int×(List TCongr)×Bool×TGraph×Bool×(List TCongr)×(List TCongr)×Bool×TInstr) ((Unit) ⊕ ((List TCongr))) where
 sk:=⟨[(3,.v (.int .i64)),(4,.loc 0 0),(5,.loc 1 0),(8,.loc 2 0),(9,.loc 3 0),(10,.v (.lit cCongr)),(95,.v .bool)],[kG,kM,(.cons .bool (.cons .nils (.cons .nils .nil))),kN],[],0,0⟩
 p:=fun u=>(u.1.1,u.1.2.1,u.1.2.2.1,(q8 u.2.1.1),u.2.1.2.1.1,u.2.1.2.1.2.1,u.2.1.2.1.2.2.1,u.2.1.2.2.1.1,(q8 u.2.1.2.2.2.1))
 n:=fun p=>((p.1,(p.2.1,(p.2.2.1,()))),(((w8 p.2.2.2.1),((p.2.2.2.2.1,(p.2.2.2.2.2.1,(p.2.2.2.2.2.2.1,()))),((p.2.2.2.2.2.2.2.1,((),((),()))),((w8 p.2.2.2.2.2.2.2.2),())))),()))
 st:=fun Y p ke=>cond p.2.2.1
  (ask (V.inRange p.2.2.2.2.2.2.2.2.2.1 (List.length p.2.1)) (ask (V.inRange p.2.2.2.2.2.2.2.2.2.2.1 (List.length p.2.2.2.1.2.2.2.2.2.2.1)) ((f54_m (gx p.2.2.2.1.2.2.2.2.2.2.1 (Int.toNat p.2.2.2.2.2.2.2.2.2.2.1) dArray).2.1).bind fun r1=>
  (f53_m ((gx p.2.1 (Int.toNat p.2.2.2.2.2.2.2.2.2.1) dCongr),r1)).bind fun r2=>
  cond r2.1.1
  (ke (.inl ()))
  (ask (V.inRange p.2.2.2.2.2.2.2.2.2.2.1 (List.length p.2.2.2.1.2.2.2.2.2.2.1)) ((f19_c17.m (p.1,p.2.1,(decide ((1:Int)<(gx p.2.2.2.1.2.2.2.2.2.2.1 (Int.toNat p.2.2.2.2.2.2.2.2.2.2.1) dArray).2.2.1)),p.2.2.2,r2.1)).bind fun e3=>
  (f55_m (p.2.2.2.2.2.2.1,p.2.2.2.2.2.2.2.2.2.2.1,e3)).bind fun r4=>
  ke (.inr (r4)))))))
  (ke (.inr (p.2.2.2.2.2.2.1)))
 o:=fun Z p e K=>Sum.elim (fun e=>K .ret ⟨[(8,.loc 0 0)],[[.bool false,.nils,.nils]],⟨[],0⟩,0⟩) (fun e=>K .normal ⟨[(3,.v (.int .i64 p.1)),(4,.loc 0 0),(5,.loc 1 0),(8,.loc 2 0),(9,.loc 3 0),(10,.v (.lit cCongr p.2.1))],[[.lit cInstr p.2.2.2.1.1,.int .i64 p.2.2.2.1.2.1,.int .i64 p.2.2.2.1.2.2.1,.int .i64 p.2.2.2.1.2.2.2.1,.lit cArray p.2.2.2.1.2.2.2.2.1,.lit cScalar p.2.2.2.1.2.2.2.2.2.1,.lit cArray p.2.2.2.1.2.2.2.2.2.2.1,.lit cItv p.2.2.2.1.2.2.2.2.2.2.2],[.bool p.2.2.2.2.1,.lit cCongr p.2.2.2.2.2.1,.lit cCongr e],[.bool p.2.2.2.2.2.2.2.1,.nils,.nils],[.int .i64 p.2.2.2.2.2.2.2.2.1,.int .i64 p.2.2.2.2.2.2.2.2.2.1,.int .i64 p.2.2.2.2.2.2.2.2.2.2.1,.int .i64 p.2.2.2.2.2.2.2.2.2.2.2.1,.int .i64 p.2.2.2.2.2.2.2.2.2.2.2.2.1,.int .i64 p.2.2.2.2.2.2.2.2.2.2.2.2.2.1,.int .i64 p.2.2.2.2.2.2.2.2.2.2.2.2.2.2.1,.int .i64 p.2.2.2.2.2.2.2.2.2.2.2.2.2.2.2]],⟨[],0⟩,0⟩) e
 pol:=⟨[3,4,5,8,9,10,95],[],[],[]⟩
 pe:=[(.ret,⟨[8],[],[],[]⟩),(.normal,⟨[3,4,5,8,9,10],[],[],[]⟩)]
def f19_c {X:Type} (a:TGraph×TMods×Int×Int) (K:TMods->Option X):Option X:=
 (f19_r1.m (a.2.2,a.1,a.2.1,false)).bind fun e1=>
 cond e1
 (K (false,([],[])))
 (ask (V.inRange a.2.2.1 (List.length a.1.1)) ((f48_m (a.1,a.2.1)).bind fun r2=>
 (f19_r5.m (a.2.2.2,r2,a.1,a.2.1,false,(gx a.1.1 (Int.toNat a.2.2.1) dInstr))).bind fun e3=>
 cond e3
 (K (false,([],[])))
 ((f19_c8.m (a.2.2.2,r2,(decide ((gx a.1.1 (Int.toNat a.2.2.1) dInstr).1=(13:Int))),a.1,a.2.1,false,(gx a.1.1 (Int.toNat a.2.2.1) dInstr))).bind fun e4=>
 Sum.elim (fun e5=>K (false,([],[])))
 (fun e6=>(f19_c13.m (a.2.2.2,r2,(decide ((gx a.1.1 (Int.toNat a.2.2.1) dInstr).1=(14:Int))),a.1,a.2.1.1,e6,a.2.1.2.2,false,(gx a.1.1 (Int.toNat a.2.2.1) dInstr))).bind fun e7=>
 Sum.elim (fun e8=>K (false,([],[])))
 (fun e9=>cond (decide ((gx a.1.1 (Int.toNat a.2.2.1) dInstr).1=(15:Int)))
 ((f57_m (a.1,(a.2.1.1,(e6,e9)),r2,(gx a.1.1 (Int.toNat a.2.2.1) dInstr),a.2.2.2)).bind fun r10=>
 K r10)
 (K (a.2.1.1,(e6,e9)))) e7) e4)))
def f19_m (a:TGraph×TMods×Int×Int):Option (TMods):=f19_c a some
def f19_sp:Spec:=f19_s.sp f19_m
noncomputable def f19_e:Env:=⟨fun k=>[1000008,1000013,1000017,2000001,2000005].contains k,callsL [(48,f48_sp),(54,f54_sp),(53,f53_sp),(55,f55_sp),(56,f56_sp),(57,f57_sp)],fun X k s K=>if k=2000001 then f19_r1.q X s K else if k=2000005 then f19_r5.q X s K else if k=1000008 then f19_c8.q X s K else if k=1000017 then f19_c17.q X s K else if k=1000013 then f19_c13.q X s K else none⟩
noncomputable def f19_r1_c:Code:=subAt [1,0,0] (bodyOf Tryz.f19)
theorem f19_r1_ok (hc:SimCall C f19_e.call):LoopSim f19_e.loop (vc par C true [4,5,8,9,11,12,13,14] 149) f19_r1_c:=
 pO (env0:=⟨offJ f19_e.join 2000001,f19_e.call,f19_e.loop⟩) hc rfl f19_r1 (by intros;simp only [f19_r1,PD.m,nn])
noncomputable def f19_r5_c:Code:=subAt [1,1,1,1,0,0] (bodyOf Tryz.f19)
theorem f19_r5_ok (hc:SimCall C f19_e.call):LoopSim f19_e.loop (vc par C true [4,5,8,9,11,12,13,14] 149) f19_r5_c:=
 pO (env0:=⟨offJ f19_e.join 2000005,f19_e.call,f19_e.loop⟩) hc rfl f19_r5 (by intros;simp only [f19_r5,PD.m,nn])
noncomputable def f19_c8_c:Code:=subAt [1,1,1,1,1,0,1] (bodyOf Tryz.f19)
theorem f19_c8_ok (hc:SimCall C f19_e.call):LoopSim f19_e.loop (vc par C true [4,5,8,9,11,12,13,14] 149) f19_c8_c:=
 pO (env0:=⟨offJ f19_e.join 1000008,f19_e.call,f19_e.loop⟩) hc rfl f19_c8 (by intros;simp only [f19_c8,PD.m,nn])
noncomputable def f19_c17_c:Code:=subAt [1,1,1,1,1,1,0,1,0,1,1,0,1] (bodyOf Tryz.f19)
theorem f19_c17_ok (hc:SimCall C f19_e.call):LoopSim f19_e.loop (vc par C true [4,5,8,9,11,12,13,14] 149) f19_c17_c:=
 pO (env0:=⟨offJ f19_e.join 1000017,f19_e.call,f19_e.loop⟩) hc rfl f19_c17 (by intros;simp only [f19_c17,PD.m,nn])
noncomputable def f19_c13_c:Code:=subAt [1,1,1,1,1,1,0,1] (bodyOf Tryz.f19)
theorem f19_c13_ok (hc:SimCall C f19_e.call):LoopSim f19_e.loop (vc par C true [4,5,8,9,11,12,13,14] 149) f19_c13_c:=
 pO (env0:=⟨offJ f19_e.join 1000013,f19_e.call,f19_e.loop⟩) hc rfl f19_c13 (by intros;simp only [f19_c13,PD.m,nn]) (hl:=(lp_of (by kernel_rfl) (lp_cons (f19_c17_ok hc) lp_nil)))
theorem f19_ok:OK (8) 19 (f19_s.sp f19_m):=
 fO (d:=7) (env:=f19_e) (callsL_sim (cc f48_ok (cc f54_ok (cc f53_ok (cc f55_ok (cc f56_ok (cc f57_ok cn))))))) (fn:=Tryz.f19) (mc:=@f19_c) (by intros;simp only [f19_m,f19_c,nn]) (locs:=[4,5,8,9,11,12,13,14]) (sh:=(.agg [.any,(.lit cCongr),(.lit cCongr)])) (fz:=true) (hl:=fun hc=>(lp_of (by kernel_rfl) (lp_cons (f19_r1_ok hc) (lp_cons (f19_r5_ok hc) (lp_cons (f19_c8_ok hc) (lp_cons (f19_c13_ok hc) lp_nil))))))
def f17v1_s:FS (TMods×TMods) (Bool) where
 sk:=⟨(.cons (.agg kM) (.cons (.agg kM) .nil)),[],0⟩
 a:=fun u=>((q3 u.1.1),(q3 u.1.2.1))
 n:=fun a=>(((w3 a.1),((w3 a.2),())),())
 o:=fun Z a r K=>K (.bool r) ⟨[],0⟩
def f17v1_l4:LD ((TMods×TMods)) (Int) ((Unit) ⊕ (Unit)) where
 sk:=⟨[(2,.loc 0 0),(3,.loc 1 0),(5,.v (.int .i64))],[kM,kM],[],0,0⟩
 p:=fun u=>((q3 u.2.1.1),(q3 u.2.1.2.1))
 t:=fun u=>u.1.1
 n:=fun p t=>((t,()),(((w3 p.1),((w3 p.2),())),()))
 st:=fun Y p t ki ke=>cond (decide (t<(nt (List.length p.1.2.1))))
  (ask (V.inRange t (List.length p.1.2.1)) (ask (V.inRange t (List.length p.2.2.1)) (cond (!(((gx p.1.2.1 (Int.toNat t) dCongr).1==(gx p.2.2.1 (Int.toNat t) dCongr).1)&&((decide ((gx p.1.2.1 (Int.toNat t) dCongr).2.1=(gx p.2.2.1 (Int.toNat t) dCongr).2.1))&&((decide ((gx p.1.2.1 (Int.toNat t) dCongr).2.2=(gx p.2.2.1 (Int.toNat t) dCongr).2.2))&&true))))
  (ke (.inl ()))
  (ki ((wi64 (t+(1:Int))))))))
  (ke (.inr (())))
 o:=fun Z p e K=>Sum.elim (fun e=>K .ret ⟨[(4,.v (.bool false))],[],⟨[],0⟩,0⟩) (fun e=>K (.exit 0) ⟨[(2,.loc 0 0),(3,.loc 1 0)],[[.bool p.1.1,.lit cCongr p.1.2.1,.lit cCongr p.1.2.2],[.bool p.2.1,.lit cCongr p.2.2.1,.lit cCongr p.2.2.2]],⟨[],0⟩,0⟩) e
 pol:=⟨[2,3,5],[],[],[]⟩
 pe:=[(.ret,⟨[4],[],[],[]⟩),(.exit 0,⟨[2,3],[],[],[]⟩)]
def f17v1_l9:LD ((TMods×TMods)) (Int) ((Unit) ⊕ (Unit)) where
 sk:=⟨[(2,.loc 0 0),(3,.loc 1 0),(6,.v (.int .i64))],[kM,kM],[],0,0⟩
 p:=fun u=>((q3 u.2.1.1),(q3 u.2.1.2.1))
 t:=fun u=>u.1.1
 n:=fun p t=>((t,()),(((w3 p.1),((w3 p.2),())),()))
 st:=fun Y p t ki ke=>cond (decide (t<(nt (List.length p.1.2.2))))
  (ask (V.inRange t (List.length p.1.2.2)) (ask (V.inRange t (List.length p.2.2.2)) (cond (!(((gx p.1.2.2 (Int.toNat t) dCongr).1==(gx p.2.2.2 (Int.toNat t) dCongr).1)&&((decide ((gx p.1.2.2 (Int.toNat t) dCongr).2.1=(gx p.2.2.2 (Int.toNat t) dCongr).2.1))&&((decide ((gx p.1.2.2 (Int.toNat t) dCongr).2.2=(gx p.2.2.2 (Int.toNat t) dCongr).2.2))&&true))))
  (ke (.inl ()))
  (ki ((wi64 (t+(1:Int))))))))
  (ke (.inr (())))
 o:=fun Z p e K=>Sum.elim (fun e=>K .ret ⟨[(4,.v (.bool false))],[],⟨[],0⟩,0⟩) (fun e=>K (.exit 2) ⟨[],[],⟨[],0⟩,0⟩) e
 pol:=⟨[2,3,6],[],[],[]⟩
 pe:=[(.ret,⟨[4],[],[],[]⟩),(.exit 2,⟨[],[],[],[]⟩)]
def f17v1_c {X:Type} (a:TMods×TMods) (K:Bool->Option X):Option X:=
 cond (!(a.1.1==a.2.1))
 (K false)
 (cond (!(decide ((nt (List.length a.1.2.1))=(nt (List.length a.2.2.1)))))
 (K false)
 (cond (!(decide ((nt (List.length a.1.2.2))=(nt (List.length a.2.2.2)))))
 (K false)
 ((loopAll (f17v1_l4.m a) 0).bind fun e1=>
 Sum.elim (fun e2=>K false)
 (fun e3=>(loopAll (f17v1_l9.m a) 0).bind fun e4=>
 Sum.elim (fun e5=>K false)
 (fun e6=>K true) e4) e1)))
def f17v1_m (a:TMods×TMods):Option (Bool):=f17v1_c a some
def f17v1_sp:Spec:=f17v1_s.sp f17v1_m
noncomputable def f17v1_e:Env:=⟨fun k=>[].contains k,callsL [],fun X k s K=>if k=4 then f17v1_l4.q X s K else if k=9 then f17v1_l9.q X s K else none⟩
noncomputable def f17v1_l4_c:Code:=subAt [1,1,0,1,0,0] (bodyOf Tryz.f17)
theorem f17v1_l4_ok (hc:SimCall C f17v1_e.call):LoopSim f17v1_e.loop (vc par C true [2,3] 66) (.loop f17v1_l4_c):=
 lO hc f17v1_l4 (by intros;simp only [f17v1_l4,LD.m,nn])
noncomputable def f17v1_l9_c:Code:=subAt [1,1,1,0,1,0,0] (bodyOf Tryz.f17)
theorem f17v1_l9_ok (hc:SimCall C f17v1_e.call):LoopSim f17v1_e.loop (vc par C true [2,3] 66) (.loop f17v1_l9_c):=
 lO hc f17v1_l9 (by intros;simp only [f17v1_l9,LD.m,nn])
theorem f17v1_ok:OK (1) 17 (f17v1_s.sp f17v1_m):=
 fO (d:=0) (env:=f17v1_e) (callsL_sim cn) (fn:=Tryz.f17) (mc:=@f17v1_c) (by intros;simp only [f17v1_m,f17v1_c,nn]) (locs:=[2,3]) (hl:=fun hc=>(lp_of (by kernel_rfl) (lp_cons (f17v1_l4_ok hc) (lp_cons (f17v1_l9_ok hc) lp_nil))))
def f4_s:FS (TGraph×TMods×Int×Int) (Bool) where
 sk:=⟨(.cons (.agg kG) (.cons (.agg kM) kI)),[],0⟩
 a:=fun u=>((q8 u.1.1),(q3 u.1.2.1),u.1.2.2.1,u.1.2.2.2.1)
 n:=fun a=>(((w8 a.1),((w3 a.2.1),(a.2.2.1,(a.2.2.2,())))),())
 o:=fun Z a r K=>K (.bool r) ⟨[],0⟩
def f4_c {X:Type} (a:TGraph×TMods×Int×Int) (K:Bool->Option X):Option X:=
 (f10_m a.1).bind fun r1=>
 cond (!r1)
 ((f12_m ()).bind fun r2=>
 K r2)
 ((f11_m (a.1,a.2.1)).bind fun r3=>
 cond (!r3)
 ((f12_m ()).bind fun r4=>
 K r4)
 (cond (decide ((wu64 (nt (List.length a.1.1)))=(0:Int)))
 (none)
 ((f15_m a.2.1).bind fun r5=>
 (f16v1_m (a.1,a.2.1.1,(wi64 (Int.tmod (wu64 a.2.2.1) (wu64 (nt (List.length a.1.1))))),a.2.2.2,a.2.1.2.1,a.2.1.2.2)).bind fun r6=>
 (f17_m (a.2.1.1,a.2.1,a.2.1.2.1,a.2.1.2.2)).bind fun r7=>
 cond (!r7)
 (K false)
 ((f18_m (a.2.1.1,a.2.1.2.1,a.2.1.2.2)).bind fun r8=>
 (f19_m (a.1,a.2.1,(wi64 (Int.tmod (wu64 a.2.2.1) (wu64 (nt (List.length a.1.1))))),a.2.2.2)).bind fun r9=>
 (f17v1_m (r6,r9)).bind fun r10=>
 cond r10
 ((f12_m ()).bind fun r11=>
 K r11)
 (K false)))))
def f4_m (a:TGraph×TMods×Int×Int):Option (Bool):=f4_c a some
def f4_sp:Spec:=f4_s.sp f4_m
noncomputable def f4_e:Env:=⟨fun k=>[].contains k,callsL [(10,f10_sp),(12,f12_sp),(11,f11_sp),(15,f15_sp),(16,f16v1_sp),(17,(alt f17_s.tk f17_sp f17v1_sp)),(18,f18_sp),(19,f19_sp)],fun X k s K=>none⟩
theorem f4_ok:OK (166020696663385964549) 4 (f4_s.sp f4_m):=
 fO (d:=166020696663385964548) (env:=f4_e) (callsL_sim (cc f10_ok (cc f12_ok (cc f11_ok (cc f15_ok (cc f16v1_ok (cA f17_ok (cc f17v1_ok (cc f18_ok (cc f19_ok cn)))))))))) (fn:=Tryz.f4) (mc:=@f4_c) (by intros;simp only [f4_m,f4_c,nn]) (locs:=[4,5,9,10])
end
end Go.U
end

