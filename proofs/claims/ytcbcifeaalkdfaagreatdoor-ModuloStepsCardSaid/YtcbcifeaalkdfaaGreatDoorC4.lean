/- The functions of the program as Lean functions, and that the evaluator says so. -/
import Derived.Test.YtcbcifeaalkdfaaGreatDoorC3
set_option linter.unusedVariables false
set_option linter.unusedSimpArgs false
set_option linter.unusedSectionVars false
section
set_option maxRecDepth 100000
namespace Go.U
open Go Go.Proofs
noncomputable section
variable {C:V.Callee}
def f16_s:FS (TGraph×TMods×Int×Int) (TMods) where
 sk:=⟨(.cons (.agg kG) (.cons (.agg kM) kI)),[],0⟩
 a:=fun u=>((q8 u.1.1),(q3 u.1.2.1),u.1.2.2.1,u.1.2.2.2.1)
 n:=fun a=>(((w8 a.1),((w3 a.2.1),(a.2.2.1,(a.2.2.2,())))),())
 o:=fun Z a r K=>K (.agg [.bool r.1,.lit cCongr r.2.1,.lit cCongr r.2.2]) ⟨[],0⟩
def f16_r1:PD (TItv×TGraph×TMods×Bool) (Bool) where
 sk:=⟨[(2,.v (.int .i64)),(3,.v (.int .i64)),(4,.loc 0 0),(5,.loc 1 0),(8,.loc 2 0)],[kG,kM,(.cons .bool (.cons .nils (.cons .nils .nil)))],[],0,0⟩
 p:=fun u=>((u.1.1,u.1.2.1),(q8 u.2.1.1),(q3 u.2.1.2.1),u.2.1.2.2.1.1)
 n:=fun p=>((p.1.1,(p.1.2,())),(((w8 p.2.1),((w3 p.2.2.1),((p.2.2.2,((),((),()))),()))),()))
 st:=fun Y p ke=>cond (!p.2.2.1.1)
  (ke (true))
  (cond (decide (p.1.2<(0:Int)))
  (ke (true))
  (cond (decide ((1:Int)<p.1.2))
  (ke (true))
  (ask (V.inRange p.1.1 (List.length p.2.1.1)) (cond (decide (p.1.2=(0:Int)))
  (ke ((decide ((gx p.2.1.1 (Int.toNat p.1.1) dInstr).2.2.2.2.2.2.1=(-1:Int)))))
  (cond (decide (p.1.2=(1:Int)))
  (ke ((decide ((gx p.2.1.1 (Int.toNat p.1.1) dInstr).2.2.2.2.2.2.2=(-1:Int)))))
  (none))))))
 o:=fun Z p e K=>K .normal ⟨[(2,.v (.int .i64 p.1.1)),(3,.v (.int .i64 p.1.2)),(4,.loc 0 0),(5,.loc 1 0),(8,.loc 2 0),(35,.v (.bool e))],[[.lit cInstr p.2.1.1,.int .i64 p.2.1.2.1,.int .i64 p.2.1.2.2.1,.int .i64 p.2.1.2.2.2.1,.lit cArray p.2.1.2.2.2.2.1,.lit cScalar p.2.1.2.2.2.2.2.1,.lit cArray p.2.1.2.2.2.2.2.2.1,.lit cItv p.2.1.2.2.2.2.2.2.2],[.bool p.2.2.1.1,.lit cCongr p.2.2.1.2.1,.lit cCongr p.2.2.1.2.2],[.bool p.2.2.2,.nils,.nils]],⟨[],0⟩,0⟩
 pol:=⟨[2,3,4,5,8],[],[],[]⟩
 pe:=[(.normal,⟨[2,3,4,5,8,35],[],[],[]⟩)]
def f16_r4:PD (Int×TGraph×Bool×TInstr×Bool×TGraph×TMods×((List (Int×TInstr))×(List (Int×TCongr)))×((List TCongr)×(List TCongr))) (Bool) where
 sk:=⟨[(3,.v (.int .i64)),(4,.loc 0 0),(8,.loc 1 0),(9,.v (.ptr 0 0)),(10,.loc 2 0),(11,.loc 3 0)],[kG,(.cons .bool (.cons .nils (.cons .nils .nil))),kN,(.cons .bool (.cons (.all 4) (.cons (.all 5) .nil)))],[.opn (.cons (.lit cInstr) (.cons (.int .i64) (.cons (.int .i64) (.cons (.int .i64) (.cons (.lit cArray) (.cons (.lit cScalar) (.cons (.lit cArray) (.cons (.lit cItv) (.cons .bool (.cons (.lit cCongr) (.cons (.lit cCongr) (.cons (.mp 1) (.cons (.mp 2) (.cons (.mp 3) .nil)))))))))))))),.mapT (.int .i64) true cInstr,.mapT (.int .i64) true cCongr,.mapL (.int .i64) [((2:Int),(.fn 85 .nil)),((3:Int),(.fn 87 .nil)),((4:Int),(.fn 89 .nil)),((5:Int),(.fn 90 .nil)),((6:Int),(.fn 91 .nil)),((7:Int),(.fn 92 .nil)),((8:Int),(.fn 93 .nil)),((9:Int),(.fn 83 .nil)),((10:Int),(.fn 83 .nil))],.cells cCongr,.cells cCongr],0,0⟩
 p:=fun u=>(u.1.1,(q8 u.2.1.1),u.2.1.2.1.1,(q8 u.2.1.2.2.1),u.2.1.2.2.2.1.1,(q8 u.2.2.1),(q3 u.2.2.1.2.2.2.2.2.2.2.2),(u.2.2.2.1,u.2.2.2.2.1),(u.2.2.2.2.2.2.1,u.2.2.2.2.2.2.2.1))
 n:=fun p=>((p.1,((),())),(((w8 p.2.1),((p.2.2.1,((),((),()))),((w8 p.2.2.2.1),((p.2.2.2.2.1,((),((),()))),())))),((p.2.2.2.2.2.1.1,(p.2.2.2.2.2.1.2.1,(p.2.2.2.2.2.1.2.2.1,(p.2.2.2.2.2.1.2.2.2.1,(p.2.2.2.2.2.1.2.2.2.2.1,(p.2.2.2.2.2.1.2.2.2.2.2.1,(p.2.2.2.2.2.1.2.2.2.2.2.2.1,(p.2.2.2.2.2.1.2.2.2.2.2.2.2,(p.2.2.2.2.2.2.1.1,(p.2.2.2.2.2.2.1.2.1,(p.2.2.2.2.2.2.1.2.2,((),((),((),())))))))))))))),(p.2.2.2.2.2.2.2.1.1,(p.2.2.2.2.2.2.2.1.2,(((),((),((),((),((),((),((),((),((),()))))))))),(p.2.2.2.2.2.2.2.2.1,(p.2.2.2.2.2.2.2.2.2,()))))))))
 st:=fun Y p ke=>cond (decide ((2:Int)<=p.2.2.2.1.1))
  (ke ((decide (p.2.2.2.1.1<=(8:Int)))))
  (ke (false))
 o:=fun Z p e K=>K .normal ⟨[(3,.v (.int .i64 p.1)),(4,.loc 0 0),(8,.loc 1 0),(9,.v (.ptr 0 0)),(10,.loc 2 0),(11,.loc 3 0),(47,.v (.bool e))],[[.lit cInstr p.2.1.1,.int .i64 p.2.1.2.1,.int .i64 p.2.1.2.2.1,.int .i64 p.2.1.2.2.2.1,.lit cArray p.2.1.2.2.2.2.1,.lit cScalar p.2.1.2.2.2.2.2.1,.lit cArray p.2.1.2.2.2.2.2.2.1,.lit cItv p.2.1.2.2.2.2.2.2.2],[.bool p.2.2.1,.nils,.nils],[.int .i64 p.2.2.2.1.1,.int .i64 p.2.2.2.1.2.1,.int .i64 p.2.2.2.1.2.2.1,.int .i64 p.2.2.2.1.2.2.2.1,.int .i64 p.2.2.2.1.2.2.2.2.1,.int .i64 p.2.2.2.1.2.2.2.2.2.1,.int .i64 p.2.2.2.1.2.2.2.2.2.2.1,.int .i64 p.2.2.2.1.2.2.2.2.2.2.2],[.bool p.2.2.2.2.1,.all 4,.all 5]],⟨[.opn [.lit cInstr p.2.2.2.2.2.1.1,.int .i64 p.2.2.2.2.2.1.2.1,.int .i64 p.2.2.2.2.2.1.2.2.1,.int .i64 p.2.2.2.2.2.1.2.2.2.1,.lit cArray p.2.2.2.2.2.1.2.2.2.2.1,.lit cScalar p.2.2.2.2.2.1.2.2.2.2.2.1,.lit cArray p.2.2.2.2.2.1.2.2.2.2.2.2.1,.lit cItv p.2.2.2.2.2.1.2.2.2.2.2.2.2,.bool p.2.2.2.2.2.2.1.1,.lit cCongr p.2.2.2.2.2.2.1.2.1,.lit cCongr p.2.2.2.2.2.2.1.2.2,.mp 1,.mp 2,.mp 3],.mapT (.int .i64) true cInstr p.2.2.2.2.2.2.2.1.1,.mapT (.int .i64) true cCongr p.2.2.2.2.2.2.2.1.2,.mapL (.int .i64) [((2:Int),.fn 85 []),((3:Int),.fn 87 []),((4:Int),.fn 89 []),((5:Int),.fn 90 []),((6:Int),.fn 91 []),((7:Int),.fn 92 []),((8:Int),.fn 93 []),((9:Int),.fn 83 []),((10:Int),.fn 83 [])],.cells cCongr p.2.2.2.2.2.2.2.2.1,.cells cCongr p.2.2.2.2.2.2.2.2.2],0⟩,0⟩
 pol:=⟨[3,4,8,9,10,11],[],[],[]⟩
 pe:=[(.normal,⟨[3,4,8,9,10,11,47],[],[],[]⟩)]
def f16_c17:PD (Bool×Bool×TInstr×Bool×TCongr×((List TCongr)×(List TCongr))) (Bool×Int×Int) where
 sk:=⟨[(8,.loc 0 0),(10,.loc 1 0),(11,.loc 2 0),(13,.loc 3 0),(113,.v .bool)],[(.cons .bool (.cons .nils (.cons .nils .nil))),kN,(.cons .bool (.cons (.all 0) (.cons (.all 1) .nil))),kC],[.cells cCongr,.cells cCongr],0,0⟩
 p:=fun u=>(u.1.1,u.2.1.1.1,(q8 u.2.1.2.1),u.2.1.2.2.1.1,(q3 u.2.1.2.2.2.1),(u.2.2.1,u.2.2.2.1))
 n:=fun p=>((p.1,()),(((p.2.1,((),((),()))),((w8 p.2.2.1),((p.2.2.2.1,((),((),()))),((w3 p.2.2.2.2.1),())))),(p.2.2.2.2.2.1,(p.2.2.2.2.2.2,()))))
 st:=fun Y p ke=>cond p.1
  (ask (V.inRange p.2.2.1.2.2.1 (List.length p.2.2.2.2.2.2)) ((f51_m ((gx p.2.2.2.2.2.2 (Int.toNat p.2.2.1.2.2.1) dCongr),p.2.2.2.2.1)).bind fun r1=>
  ke ((r1.1,r1.2.1,r1.2.2))))
  (ke ((p.2.2.2.2.1.1,p.2.2.2.2.1.2.1,p.2.2.2.2.1.2.2)))
 o:=fun Z p e K=>K .normal ⟨[(8,.loc 0 0),(10,.loc 1 0),(11,.loc 2 0),(13,.loc 3 0)],[[.bool p.2.1,.nils,.nils],[.int .i64 p.2.2.1.1,.int .i64 p.2.2.1.2.1,.int .i64 p.2.2.1.2.2.1,.int .i64 p.2.2.1.2.2.2.1,.int .i64 p.2.2.1.2.2.2.2.1,.int .i64 p.2.2.1.2.2.2.2.2.1,.int .i64 p.2.2.1.2.2.2.2.2.2.1,.int .i64 p.2.2.1.2.2.2.2.2.2.2],[.bool p.2.2.2.1,.all 0,.all 1],[.bool e.1,.int .i64 e.2.1,.int .i64 e.2.2]],⟨[.cells cCongr p.2.2.2.2.2.1,.cells cCongr p.2.2.2.2.2.2],0⟩,0⟩
 pol:=⟨[8,10,11,13,113],[],[],[]⟩
 pe:=[(.normal,⟨[8,10,11,13],[],[],[]⟩)]
def f16_c13:PD (Int×Bool×(TGraph×(Bool×(TInstr×(Bool×(TGraph×(TMods×(((List (Int×TInstr))×(List (Int×TCongr)))×((List TCongr)×(List TCongr)))))))))) ((Bool×(List TCongr)×(List TCongr)) ⊕ ((List TCongr))) where
 sk:=⟨[(3,.v (.int .i64)),(4,.loc 0 0),(8,.loc 1 0),(9,.v (.ptr 0 0)),(10,.loc 2 0),(11,.loc 3 0),(87,.v .bool)],[kG,(.cons .bool (.cons .nils (.cons .nils .nil))),kN,(.cons .bool (.cons (.all 4) (.cons (.all 5) .nil)))],[.opn (.cons (.lit cInstr) (.cons (.int .i64) (.cons (.int .i64) (.cons (.int .i64) (.cons (.lit cArray) (.cons (.lit cScalar) (.cons (.lit cArray) (.cons (.lit cItv) (.cons .bool (.cons (.lit cCongr) (.cons (.lit cCongr) (.cons (.mp 1) (.cons (.mp 2) (.cons (.mp 3) .nil)))))))))))))),.mapT (.int .i64) true cInstr,.mapT (.int .i64) true cCongr,.mapL (.int .i64) [((2:Int),(.fn 85 .nil)),((3:Int),(.fn 87 .nil)),((4:Int),(.fn 89 .nil)),((5:Int),(.fn 90 .nil)),((6:Int),(.fn 91 .nil)),((7:Int),(.fn 92 .nil)),((8:Int),(.fn 93 .nil)),((9:Int),(.fn 83 .nil)),((10:Int),(.fn 83 .nil))],.cells cCongr,.cells cCongr],0,0⟩
 p:=fun u=>(u.1.1,u.1.2.2.1,((q8 u.2.1.1),(u.2.1.2.1.1,((q8 u.2.1.2.2.1),(u.2.1.2.2.2.1.1,((q8 u.2.2.1),((q3 u.2.2.1.2.2.2.2.2.2.2.2),((u.2.2.2.1,u.2.2.2.2.1),(u.2.2.2.2.2.2.1,u.2.2.2.2.2.2.2.1)))))))))
 n:=fun p=>((p.1,((),(p.2.1,()))),(((w8 p.2.2.1),((p.2.2.2.1,((),((),()))),((w8 p.2.2.2.2.1),((p.2.2.2.2.2.1,((),((),()))),())))),((p.2.2.2.2.2.2.1.1,(p.2.2.2.2.2.2.1.2.1,(p.2.2.2.2.2.2.1.2.2.1,(p.2.2.2.2.2.2.1.2.2.2.1,(p.2.2.2.2.2.2.1.2.2.2.2.1,(p.2.2.2.2.2.2.1.2.2.2.2.2.1,(p.2.2.2.2.2.2.1.2.2.2.2.2.2.1,(p.2.2.2.2.2.2.1.2.2.2.2.2.2.2,(p.2.2.2.2.2.2.2.1.1,(p.2.2.2.2.2.2.2.1.2.1,(p.2.2.2.2.2.2.2.1.2.2,((),((),((),())))))))))))))),(p.2.2.2.2.2.2.2.2.1.1,(p.2.2.2.2.2.2.2.2.1.2,(((),((),((),((),((),((),((),((),((),()))))))))),(p.2.2.2.2.2.2.2.2.2.1,(p.2.2.2.2.2.2.2.2.2.2,()))))))))
 st:=fun Y p ke=>cond p.2.1
  ((Rec47.m (p.2.2.2.2.1.2.1,p.2.2.2.2.2.2.1,p.2.2.2.2.2.2.2.1,p.2.2.2.2.2.2.2.2.1.1,p.2.2.2.2.2.2.2.2.1.2)).bind fun r1=>
  ask (V.inRange p.2.2.2.2.1.2.2.1 (List.length p.2.2.1.2.2.2.2.2.2.1)) ((f50_m (r1.1,(gx p.2.2.1.2.2.2.2.2.2.1 (Int.toNat p.2.2.2.2.1.2.2.1) dArray).2.1)).bind fun r2=>
  cond r2.1
  (ke (.inl (false,[],[])))
  (ask (V.inRange p.2.2.2.2.1.2.2.1 (List.length p.2.2.1.2.2.2.2.2.2.1)) ((f16_c17.m ((decide ((1:Int)<(gx p.2.2.1.2.2.2.2.2.2.1 (Int.toNat p.2.2.2.2.1.2.2.1) dArray).2.2.1)),p.2.2.2.1,p.2.2.2.2.1,p.2.2.2.2.2.1,r2,p.2.2.2.2.2.2.2.2.2)).bind fun e3=>
  ask (V.inRange p.2.2.2.2.1.2.2.1 (List.length p.2.2.2.2.2.2.2.2.2.2)) (ke (.inr ((List.set p.2.2.2.2.2.2.2.2.2.2 (Int.toNat p.2.2.2.2.1.2.2.1) e3))))))))
  (cond (decide (p.2.2.2.2.1.1=(15:Int)))
  ((f52_m (p.2.2.2.2.1,p.1,p.2.2.2.2.2.1,p.2.2.2.2.2.2.1,p.2.2.2.2.2.2.2.1,p.2.2.2.2.2.2.2.2.1.1,p.2.2.2.2.2.2.2.2.1.2,p.2.2.2.2.2.2.2.2.2.1,p.2.2.2.2.2.2.2.2.2.2)).bind fun r4=>
  ke (.inl (r4.1.1,r4.1.2.1,r4.1.2.2)))
  (ke (.inr (p.2.2.2.2.2.2.2.2.2.2))))
 o:=fun Z p e K=>Sum.elim (fun e=>K .ret ⟨[(8,.loc 0 0)],[[.bool e.1,.lit cCongr e.2.1,.lit cCongr e.2.2]],⟨[],0⟩,0⟩) (fun e=>K .normal ⟨[(8,.loc 0 0),(11,.loc 1 0)],[[.bool p.2.2.2.1,.nils,.nils],[.bool p.2.2.2.2.2.1,.all 0,.all 1]],⟨[.cells cCongr p.2.2.2.2.2.2.2.2.2.1,.cells cCongr e],0⟩,0⟩) e
 pol:=⟨[3,4,8,9,10,11,87],[],[],[]⟩
 pe:=[(.ret,⟨[8],[],[(0,[.any,(.lit cCongr),(.lit cCongr)])],[]⟩),(.normal,⟨[8,11],[],[],[]⟩)]
def f16_c8:PD (Int×Bool×(TGraph×(Bool×(TInstr×(Bool×(TGraph×(TMods×(((List (Int×TInstr))×(List (Int×TCongr)))×((List TCongr)×(List TCongr)))))))))) ((Bool×(List TCongr)×(List TCongr)) ⊕ ((List TCongr)×(List TCongr))) where
 sk:=⟨[(3,.v (.int .i64)),(4,.loc 0 0),(8,.loc 1 0),(9,.v (.ptr 0 0)),(10,.loc 2 0),(11,.loc 3 0),(62,.v .bool)],[kG,(.cons .bool (.cons .nils (.cons .nils .nil))),kN,(.cons .bool (.cons (.all 4) (.cons (.all 5) .nil)))],[.opn (.cons (.lit cInstr) (.cons (.int .i64) (.cons (.int .i64) (.cons (.int .i64) (.cons (.lit cArray) (.cons (.lit cScalar) (.cons (.lit cArray) (.cons (.lit cItv) (.cons .bool (.cons (.lit cCongr) (.cons (.lit cCongr) (.cons (.mp 1) (.cons (.mp 2) (.cons (.mp 3) .nil)))))))))))))),.mapT (.int .i64) true cInstr,.mapT (.int .i64) true cCongr,.mapL (.int .i64) [((2:Int),(.fn 85 .nil)),((3:Int),(.fn 87 .nil)),((4:Int),(.fn 89 .nil)),((5:Int),(.fn 90 .nil)),((6:Int),(.fn 91 .nil)),((7:Int),(.fn 92 .nil)),((8:Int),(.fn 93 .nil)),((9:Int),(.fn 83 .nil)),((10:Int),(.fn 83 .nil))],.cells cCongr,.cells cCongr],0,0⟩
 p:=fun u=>(u.1.1,u.1.2.2.1,((q8 u.2.1.1),(u.2.1.2.1.1,((q8 u.2.1.2.2.1),(u.2.1.2.2.2.1.1,((q8 u.2.2.1),((q3 u.2.2.1.2.2.2.2.2.2.2.2),((u.2.2.2.1,u.2.2.2.2.1),(u.2.2.2.2.2.2.1,u.2.2.2.2.2.2.2.1)))))))))
 n:=fun p=>((p.1,((),(p.2.1,()))),(((w8 p.2.2.1),((p.2.2.2.1,((),((),()))),((w8 p.2.2.2.2.1),((p.2.2.2.2.2.1,((),((),()))),())))),((p.2.2.2.2.2.2.1.1,(p.2.2.2.2.2.2.1.2.1,(p.2.2.2.2.2.2.1.2.2.1,(p.2.2.2.2.2.2.1.2.2.2.1,(p.2.2.2.2.2.2.1.2.2.2.2.1,(p.2.2.2.2.2.2.1.2.2.2.2.2.1,(p.2.2.2.2.2.2.1.2.2.2.2.2.2.1,(p.2.2.2.2.2.2.1.2.2.2.2.2.2.2,(p.2.2.2.2.2.2.2.1.1,(p.2.2.2.2.2.2.2.1.2.1,(p.2.2.2.2.2.2.2.1.2.2,((),((),((),())))))))))))))),(p.2.2.2.2.2.2.2.2.1.1,(p.2.2.2.2.2.2.2.2.1.2,(((),((),((),((),((),((),((),((),((),()))))))))),(p.2.2.2.2.2.2.2.2.2.1,(p.2.2.2.2.2.2.2.2.2.2,()))))))))
 st:=fun Y p ke=>cond p.2.1
  ((Rec47.m (p.2.2.2.2.1.2.2.1,p.2.2.2.2.2.2.1,p.2.2.2.2.2.2.2.1,p.2.2.2.2.2.2.2.2.1.1,p.2.2.2.2.2.2.2.2.1.2)).bind fun r1=>
  ask (V.inRange p.2.2.2.2.1.2.1 (List.length p.2.2.1.2.2.2.2.2.1)) ((f50_m (r1.1,(gx p.2.2.1.2.2.2.2.2.1 (Int.toNat p.2.2.2.2.1.2.1) dScalar).2.1)).bind fun r2=>
  cond r2.1
  (ke (.inl (false,[],[])))
  (ask (V.inRange p.2.2.2.2.1.2.1 (List.length p.2.2.2.2.2.2.2.2.2.1)) (ke (.inr (((List.set p.2.2.2.2.2.2.2.2.2.1 (Int.toNat p.2.2.2.2.1.2.1) r2),p.2.2.2.2.2.2.2.2.2.2)))))))
  ((f16_c13.m (p.1,(decide (p.2.2.2.2.1.1=(14:Int))),p.2.2)).bind fun e3=>
  Sum.elim (fun e4=>ke (.inl (e4.1,e4.2.1,e4.2.2)))
  (fun e5=>ke (.inr ((p.2.2.2.2.2.2.2.2.2.1,e5)))) e3)
 o:=fun Z p e K=>Sum.elim (fun e=>K .ret ⟨[(8,.loc 0 0)],[[.bool e.1,.lit cCongr e.2.1,.lit cCongr e.2.2]],⟨[],0⟩,0⟩) (fun e=>K .normal ⟨[(8,.loc 0 0),(11,.loc 1 0)],[[.bool p.2.2.2.1,.nils,.nils],[.bool p.2.2.2.2.2.1,.all 0,.all 1]],⟨[.cells cCongr e.1,.cells cCongr e.2],0⟩,0⟩) e
 pol:=⟨[3,4,8,9,10,11,62],[],[],[]⟩
 pe:=[(.ret,⟨[8],[],[(0,[.any,(.lit cCongr),(.lit cCongr)])],[]⟩),(.normal,⟨[8,11],[],[],[]⟩)]
def f16_c5:PD (Int×Bool×TGraph×Bool×TInstr×Bool×TGraph×TMods×((List (Int×TInstr))×(List (Int×TCongr)))×((List TCongr)×(List TCongr))) ((Bool×(List TCongr)×(List TCongr)) ⊕ ((List TCongr)×(List TCongr))) where
 sk:=⟨[(3,.v (.int .i64)),(4,.loc 0 0),(8,.loc 1 0),(9,.v (.ptr 0 0)),(10,.loc 2 0),(11,.loc 3 0),(47,.v .bool)],[kG,(.cons .bool (.cons .nils (.cons .nils .nil))),kN,(.cons .bool (.cons (.all 4) (.cons (.all 5) .nil)))],[.opn (.cons (.lit cInstr) (.cons (.int .i64) (.cons (.int .i64) (.cons (.int .i64) (.cons (.lit cArray) (.cons (.lit cScalar) (.cons (.lit cArray) (.cons (.lit cItv) (.cons .bool (.cons (.lit cCongr) (.cons (.lit cCongr) (.cons (.mp 1) (.cons (.mp 2) (.cons (.mp 3) .nil)))))))))))))),.mapT (.int .i64) true cInstr,.mapT (.int .i64) true cCongr,.mapL (.int .i64) [((2:Int),(.fn 85 .nil)),((3:Int),(.fn 87 .nil)),((4:Int),(.fn 89 .nil)),((5:Int),(.fn 90 .nil)),((6:Int),(.fn 91 .nil)),((7:Int),(.fn 92 .nil)),((8:Int),(.fn 93 .nil)),((9:Int),(.fn 83 .nil)),((10:Int),(.fn 83 .nil))],.cells cCongr,.cells cCongr],0,0⟩
 p:=fun u=>(u.1.1,u.1.2.2.1,(q8 u.2.1.1),u.2.1.2.1.1,(q8 u.2.1.2.2.1),u.2.1.2.2.2.1.1,(q8 u.2.2.1),(q3 u.2.2.1.2.2.2.2.2.2.2.2),(u.2.2.2.1,u.2.2.2.2.1),(u.2.2.2.2.2.2.1,u.2.2.2.2.2.2.2.1))
 n:=fun p=>((p.1,((),(p.2.1,()))),(((w8 p.2.2.1),((p.2.2.2.1,((),((),()))),((w8 p.2.2.2.2.1),((p.2.2.2.2.2.1,((),((),()))),())))),((p.2.2.2.2.2.2.1.1,(p.2.2.2.2.2.2.1.2.1,(p.2.2.2.2.2.2.1.2.2.1,(p.2.2.2.2.2.2.1.2.2.2.1,(p.2.2.2.2.2.2.1.2.2.2.2.1,(p.2.2.2.2.2.2.1.2.2.2.2.2.1,(p.2.2.2.2.2.2.1.2.2.2.2.2.2.1,(p.2.2.2.2.2.2.1.2.2.2.2.2.2.2,(p.2.2.2.2.2.2.2.1.1,(p.2.2.2.2.2.2.2.1.2.1,(p.2.2.2.2.2.2.2.1.2.2,((),((),((),())))))))))))))),(p.2.2.2.2.2.2.2.2.1.1,(p.2.2.2.2.2.2.2.2.1.2,(((),((),((),((),((),((),((),((),((),()))))))))),(p.2.2.2.2.2.2.2.2.2.1,(p.2.2.2.2.2.2.2.2.2.2,()))))))))
 st:=fun Y p ke=>cond p.2.1
  ((Rec47.m (p.2.2.2.2.1.2.1,p.2.2.2.2.2.2.1,p.2.2.2.2.2.2.2.1,p.2.2.2.2.2.2.2.2.1.1,p.2.2.2.2.2.2.2.2.1.2)).bind fun r1=>
  cond r1.1.1
  (ke (.inl (false,[],[])))
  (ke (.inr ((p.2.2.2.2.2.2.2.2.2.1,p.2.2.2.2.2.2.2.2.2.2)))))
  ((f16_c8.m (p.1,(decide (p.2.2.2.2.1.1=(13:Int))),p.2.2)).bind fun e2=>
  Sum.elim (fun e3=>ke (.inl (e3.1,e3.2.1,e3.2.2)))
  (fun e4=>ke (.inr ((e4.1,e4.2)))) e2)
 o:=fun Z p e K=>Sum.elim (fun e=>K .ret ⟨[(8,.loc 0 0)],[[.bool e.1,.lit cCongr e.2.1,.lit cCongr e.2.2]],⟨[],0⟩,0⟩) (fun e=>K .normal ⟨[(8,.loc 0 0),(11,.loc 1 0)],[[.bool p.2.2.2.1,.nils,.nils],[.bool p.2.2.2.2.2.1,.all 0,.all 1]],⟨[.cells cCongr e.1,.cells cCongr e.2],0⟩,0⟩) e
 pol:=⟨[3,4,8,9,10,11,47],[],[],[]⟩
 pe:=[(.ret,⟨[8],[],[(0,[.any,(.lit cCongr),(.lit cCongr)])],[]⟩),(.normal,⟨[8,11],[],[],[]⟩)]
def f16_c {X:Type} (a:TGraph×TMods×Int×Int) (K:TMods->Option X):Option X:=
 (f16_r1.m (a.2.2,a.1,a.2.1,false)).bind fun e1=>
 cond e1
 (K (false,([],[])))
 ((f46_m (a.1,a.2.1)).bind fun r2=>
 ask (V.inRange a.2.2.1 (List.length a.1.1)) ((f49_m a.2.1).bind fun r3=>
 (f16_r4.m (a.2.2.2,a.1,false,(gx a.1.1 (Int.toNat a.2.2.1) dInstr),a.2.1.1,a.1,a.2.1,r2,a.2.1.2)).bind fun e4=>
 (f16_c5.m (a.2.2.2,e4,a.1,false,(gx a.1.1 (Int.toNat a.2.2.1) dInstr),a.2.1.1,a.1,a.2.1,r2,a.2.1.2)).bind fun e5=>
 Sum.elim (fun e6=>K e6)
 (fun e7=>K (a.2.1.1,e7)) e5))
def f16_m (a:TGraph×TMods×Int×Int):Option (TMods):=f16_c a some
def f16_sp:Spec:=f16_s.sp f16_m
noncomputable def f16_e:Env:=⟨fun k=>[1000005,1000008,1000013,1000017,2000001,2000004].contains k,callsL [(46,f46_sp),(49,f49_sp),(47,f47_sp),(50,f50_sp),(51,f51_sp),(52,f52_sp)],fun X k s K=>if k=2000001 then f16_r1.q X s K else if k=2000004 then f16_r4.q X s K else if k=1000017 then f16_c17.q X s K else if k=1000013 then f16_c13.q X s K else if k=1000008 then f16_c8.q X s K else if k=1000005 then f16_c5.q X s K else none⟩
noncomputable def f16_r1_c:Code:=subAt [1,0,0] (bodyOf Tryz.f16)
theorem f16_r1_ok (hc:SimCall C f16_e.call):LoopSim f16_e.loop (vc par C true [4,5,8,10,11,12,13,1000059,1000069,1000094] 138) f16_r1_c:=
 pO (env0:=⟨offJ f16_e.join 2000001,f16_e.call,f16_e.loop⟩) hc rfl f16_r1 (by intros;simp only [f16_r1,PD.m,nn])
noncomputable def f16_r4_c:Code:=subAt [1,1,1,0,0,0] (bodyOf Tryz.f16)
theorem f16_r4_ok (hc:SimCall C f16_e.call):LoopSim f16_e.loop (vc par C true [4,5,8,10,11,12,13,1000059,1000069,1000094] 138) f16_r4_c:=
 pO (env0:=⟨offJ f16_e.join 2000004,f16_e.call,f16_e.loop⟩) hc rfl f16_r4 (by intros;simp only [f16_r4,PD.m,nn])
noncomputable def f16_c17_c:Code:=subAt [1,1,1,0,0,1,1,1,1,1,0,1,1,0,1] (bodyOf Tryz.f16)
theorem f16_c17_ok (hc:SimCall C f16_e.call):LoopSim f16_e.loop (vc par C true [4,5,8,10,11,12,13,1000059,1000069,1000094] 138) f16_c17_c:=
 pO (env0:=⟨offJ f16_e.join 1000017,f16_e.call,f16_e.loop⟩) hc rfl f16_c17 (by intros;simp only [f16_c17,PD.m,nn])
noncomputable def f16_c13_c:Code:=subAt [1,1,1,0,0,1,1,1,1,1] (bodyOf Tryz.f16)
theorem f16_c13_ok (hc:SimCall C f16_e.call):LoopSim f16_e.loop (vc par C true [4,5,8,10,11,12,13,1000059,1000069,1000094] 138) f16_c13_c:=
 pO (env0:=⟨offJ f16_e.join 1000013,f16_e.call,f16_e.loop⟩) hc rfl f16_c13 (by intros;simp only [f16_c13,PD.m,nn]) (hl:=(lp_of (by kernel_rfl) (lp_cons (f16_c17_ok hc) lp_nil)))
noncomputable def f16_c8_c:Code:=subAt [1,1,1,0,0,1,1,1] (bodyOf Tryz.f16)
theorem f16_c8_ok (hc:SimCall C f16_e.call):LoopSim f16_e.loop (vc par C true [4,5,8,10,11,12,13,1000059,1000069,1000094] 138) f16_c8_c:=
 pO (env0:=⟨offJ f16_e.join 1000008,f16_e.call,f16_e.loop⟩) hc rfl f16_c8 (by intros;simp only [f16_c8,PD.m,nn]) (hl:=(lp_of (by kernel_rfl) (lp_cons (f16_c13_ok hc) lp_nil)))
noncomputable def f16_c5_c:Code:=subAt [1,1,1,0,0,1] (bodyOf Tryz.f16)
theorem f16_c5_ok (hc:SimCall C f16_e.call):LoopSim f16_e.loop (vc par C true [4,5,8,10,11,12,13,1000059,1000069,1000094] 138) f16_c5_c:=
 pO (env0:=⟨offJ f16_e.join 1000005,f16_e.call,f16_e.loop⟩) hc rfl f16_c5 (by intros;simp only [f16_c5,PD.m,nn]) (hl:=(lp_of (by kernel_rfl) (lp_cons (f16_c8_ok hc) lp_nil)))
theorem f16_ok:OK (166020696663385964546) 16 (f16_s.sp f16_m):=
 fO (d:=166020696663385964545) (env:=f16_e) (callsL_sim (cc f46_ok (cc f49_ok (cc f47_ok (cc f50_ok (cc f51_ok (cc f52_ok cn))))))) (fn:=Tryz.f16) (mc:=@f16_c) (by intros;simp only [f16_m,f16_c,nn]) (locs:=[4,5,8,10,11,12,13,1000059,1000069,1000094]) (sh:=(.agg [.any,(.lit cCongr),(.lit cCongr)])) (fz:=true) (hl:=fun hc=>(lp_of (by kernel_rfl) (lp_cons (f16_r1_ok hc) (lp_cons (f16_r4_ok hc) (lp_cons (f16_c5_ok hc) lp_nil)))))
def f63_s:FS (TMods×TMods) (Unit) where
 sk:=⟨(.cons (.ptr 0 0) (.cons (.agg kM) .nil)),[.opn kM],0⟩
 a:=fun u=>((q3 u.1.2.1),(q3 u.2.1))
 n:=fun a=>(((),((w3 a.1),())),((w3 a.2),()))
 o:=fun Z a r K=>K (.fn 116 [.ptr 1 0,.ptr 2 0]) ⟨[.opn [.bool a.2.1,.lit cCongr a.2.2.1,.lit cCongr a.2.2.2],.opn [.ptr 0 0],.opn [.bool a.1.1,.lit cCongr a.1.2.1,.lit cCongr a.1.2.2]],0⟩
def f63_c {X:Type} (a:TMods×TMods) (K:Unit->Option X):Option X:=
 K ()
def f63_m (a:TMods×TMods):Option (Unit):=f63_c a some
def f63_sp:Spec:=f63_s.sp f63_m
noncomputable def f63_e:Env:=⟨fun k=>[].contains k,callsL [],fun X k s K=>none⟩
theorem f63_ok:OK (1) 63 (f63_s.sp f63_m):=
 fO (d:=0) (env:=f63_e) (callsL_sim cn) (fn:=Tryz.f63) (mc:=@f63_c) (by intros;simp only [f63_m,f63_c,nn])
def f27_s:FS (TCongr×TCongr) (Bool) where
 sk:=⟨(.cons (.agg kC) (.cons (.agg kC) .nil)),[],0⟩
 a:=fun u=>((q3 u.1.1),(q3 u.1.2.1))
 n:=fun a=>(((w3 a.1),((w3 a.2),())),())
 o:=fun Z a r K=>K (.bool r) ⟨[],0⟩
def f27_c {X:Type} (a:TCongr×TCongr) (K:Bool->Option X):Option X:=
 cond a.1.1
 (K true)
 (cond (!a.2.1)
 ((f51_m (a.1,a.2)).bind fun r1=>
 K ((r1.1==a.2.1)&&((decide (r1.2.1=a.2.2.1))&&((decide (r1.2.2=a.2.2.2))&&true))))
 (K false))
def f27_m (a:TCongr×TCongr):Option (Bool):=f27_c a some
def f27_sp:Spec:=f27_s.sp f27_m
noncomputable def f27_e:Env:=⟨fun k=>[].contains k,callsL [(51,f51_sp)],fun X k s K=>none⟩
theorem f27_ok:OK (6) 27 (f27_s.sp f27_m):=
 fO (d:=5) (env:=f27_e) (callsL_sim (cc f51_ok cn)) (fn:=Tryz.f27) (mc:=@f27_c) (by intros;simp only [f27_m,f27_c,nn]) (locs:=[2,3])
def y250004_s:FS (TCongr×TCongr×Bool) ((Unit) ⊕ (Unit)) where
 sk:=⟨(.cons (.yl 0) (.cons (.eptr kC) (.cons (.agg kC) .nil))),[.loop 250004 [(4,(.ptr 1 0))] .ready .normal,.opn (.cons .bool .nil)],0⟩
 a:=fun u=>((q3 u.1.2.1),(q3 u.1.2.2.1),u.2.2.1.1)
 n:=fun a=>(((),((w3 a.1),((w3 a.2.1),()))),(((),()),((a.2.2,()),())))
 o:=fun Z a r K=>Sum.elim (fun e=>K (.bool false) ⟨[.loop 250004 [(4,.ptr 1 0)] .done .ret,.opn [.bool false]],0⟩) (fun e=>K (.bool true) ⟨[.loop 250004 [(4,.ptr 1 0)] .ready .normal,.opn [.bool a.2.2]],0⟩) r
def y250004_c {X:Type} (a:TCongr×TCongr×Bool) (K:(Unit) ⊕ (Unit)->Option X):Option X:=
 (f27_m (a.1,a.2.1)).bind fun r1=>
 cond (!r1)
 (K (.inl ()))
 (K (.inr (())))
def y250004_m (a:TCongr×TCongr×Bool):Option ((Unit) ⊕ (Unit)):=y250004_c a some
def y250004_sp:Spec:=y250004_s.sp y250004_m
noncomputable def y250004_e:Env:=⟨fun k=>[].contains k,callsL [(27,f27_sp)],fun X k s K=>none⟩
theorem y250004_ok:OKY (7) y250004_sp:=
 ylOK (d:=6) (env:=y250004_e) (callsL_sim (cc f27_ok cn)) (id:=250004) (r:=rfT 250004) rfl (fun hc=>(lp_of (by kernel_rfl) lp_nil)) (fun hc=>(lp_of (by kernel_rfl) lp_nil)) (mc:=fun X a K=>y250004_c a K) (fun _ _ _=>by kernel_rfl) (by intros;simp only [y250004_m,y250004_c,nn]) (fun _=>rfl)
def f116_s:FS (TMods×TMods×Bool) ((Unit) ⊕ (Unit)) where
 sk:=⟨(.cons (.yl 3) (.cons (.ptr 0 0) (.cons (.ptr 2 0) .nil))),[.opn (.cons (.ptr 1 0) .nil),.opn kM,.opn kM,.loop 250004 [(4,(.ptr 4 0))] .ready .normal,.opn (.cons .bool .nil)],0⟩
 a:=fun u=>((q3 u.2.2.1),(q3 u.2.2.2.1),u.2.2.2.2.2.1.1)
 n:=fun a=>(((),((),((),()))),(((),()),((w3 a.1),((w3 a.2.1),(((),()),((a.2.2,()),()))))))
 o:=fun Z a r K=>Sum.elim (fun e=>K (.tup []) ⟨[.opn [.ptr 1 0],.opn [.bool a.1.1,.lit cCongr a.1.2.1,.lit cCongr a.1.2.2],.opn [.bool a.2.1.1,.lit cCongr a.2.1.2.1,.lit cCongr a.2.1.2.2],.loop 250004 [(4,.ptr 4 0)] .done .ret,.opn [.bool false]],0⟩) (fun e=>K (.tup []) ⟨[.opn [.ptr 1 0],.opn [.bool a.1.1,.lit cCongr a.1.2.1,.lit cCongr a.1.2.2],.opn [.bool a.2.1.1,.lit cCongr a.2.1.2.1,.lit cCongr a.2.1.2.2],.loop 250004 [(4,.ptr 4 0)] .ready .normal,.opn [.bool a.2.2]],0⟩) r
def f116_l1:LD (Int×(TMods×(TMods×Bool))) (Int) ((Unit) ⊕ (Unit)) where
 sk:=⟨[(0,.v (.yl 3)),(1,.v (.ptr 0 0)),(2,.v (.ptr 2 0)),(10,.v (.int .i64)),(11,.v (.int .i64))],[],[.opn (.cons (.ptr 1 0) .nil),.opn kM,.opn kM,.loop 250004 [(4,(.ptr 4 0))] .ready .normal,.opn (.cons .bool .nil)],0,5⟩
 p:=fun u=>(u.1.2.2.2.1,((q3 u.2.2.2.1),((q3 u.2.2.2.2.1),u.2.2.2.2.2.2.1.1)))
 t:=fun u=>u.1.2.2.2.2.1
 n:=fun p t=>(((),((),((),(p.1,(t,()))))),((),(((),()),((w3 p.2.1),((w3 p.2.2.1),(((),()),((p.2.2.2,()),())))))))
 st:=fun Y p t ki ke=>cond (decide (t<p.1))
  (ask (V.inRange t (List.length p.2.1.2.1)) (ask (V.inRange t (List.length p.2.2.1.2.1)) ((y250004_m ((gx p.2.1.2.1 (Int.toNat t) dCongr),(gx p.2.2.1.2.1 (Int.toNat t) dCongr),p.2.2.2)).bind fun r1=>
  Sum.elim (fun r2=>ke (.inl ()))
  (fun r3=>ki ((wi64 (t+(1:Int))))) r1)))
  (ke (.inr (())))
 o:=fun Z p e K=>Sum.elim (fun e=>K .ret ⟨[],[],⟨[.opn [.ptr 1 0],.opn [.bool p.2.1.1,.lit cCongr p.2.1.2.1,.lit cCongr p.2.1.2.2],.opn [.bool p.2.2.1.1,.lit cCongr p.2.2.1.2.1,.lit cCongr p.2.2.1.2.2],.loop 250004 [(4,.ptr 4 0)] .done .ret,.opn [.bool false]],0⟩,5⟩) (fun e=>K (.exit 0) ⟨[(0,.v (.yl 3)),(1,.v (.ptr 0 0)),(2,.v (.ptr 2 0))],[],⟨[.opn [.ptr 1 0],.opn [.bool p.2.1.1,.lit cCongr p.2.1.2.1,.lit cCongr p.2.1.2.2],.opn [.bool p.2.2.1.1,.lit cCongr p.2.2.1.2.1,.lit cCongr p.2.2.1.2.2],.loop 250004 [(4,.ptr 4 0)] .ready .normal,.opn [.bool p.2.2.2]],0⟩,5⟩) e
 pol:=⟨[0,1,2,10,11],[],[],[]⟩
 pe:=[(.ret,⟨[],[],[],[]⟩),(.exit 0,⟨[0,1,2],[],[],[]⟩)]
def f116_l6:LD (Int×(TMods×(TMods×Bool))) (Int) ((Unit) ⊕ (Unit)) where
 sk:=⟨[(0,.v (.yl 3)),(1,.v (.ptr 0 0)),(2,.v (.ptr 2 0)),(33,.v (.int .i64)),(34,.v (.int .i64))],[],[.opn (.cons (.ptr 1 0) .nil),.opn kM,.opn kM,.loop 250004 [(4,(.ptr 4 0))] .ready .normal,.opn (.cons .bool .nil)],0,5⟩
 p:=fun u=>(u.1.2.2.2.1,((q3 u.2.2.2.1),((q3 u.2.2.2.2.1),u.2.2.2.2.2.2.1.1)))
 t:=fun u=>u.1.2.2.2.2.1
 n:=fun p t=>(((),((),((),(p.1,(t,()))))),((),(((),()),((w3 p.2.1),((w3 p.2.2.1),(((),()),((p.2.2.2,()),())))))))
 st:=fun Y p t ki ke=>cond (decide (t<p.1))
  (ask (V.inRange t (List.length p.2.1.2.2)) (ask (V.inRange t (List.length p.2.2.1.2.2)) ((y250004_m ((gx p.2.1.2.2 (Int.toNat t) dCongr),(gx p.2.2.1.2.2 (Int.toNat t) dCongr),p.2.2.2)).bind fun r1=>
  Sum.elim (fun r2=>ke (.inl ()))
  (fun r3=>ki ((wi64 (t+(1:Int))))) r1)))
  (ke (.inr (())))
 o:=fun Z p e K=>Sum.elim (fun e=>K .ret ⟨[],[],⟨[.opn [.ptr 1 0],.opn [.bool p.2.1.1,.lit cCongr p.2.1.2.1,.lit cCongr p.2.1.2.2],.opn [.bool p.2.2.1.1,.lit cCongr p.2.2.1.2.1,.lit cCongr p.2.2.1.2.2],.loop 250004 [(4,.ptr 4 0)] .done .ret,.opn [.bool false]],0⟩,5⟩) (fun e=>K (.exit 2) ⟨[],[],⟨[.opn [.ptr 1 0],.opn [.bool p.2.1.1,.lit cCongr p.2.1.2.1,.lit cCongr p.2.1.2.2],.opn [.bool p.2.2.1.1,.lit cCongr p.2.2.1.2.1,.lit cCongr p.2.2.1.2.2],.loop 250004 [(4,.ptr 4 0)] .ready .normal,.opn [.bool p.2.2.2]],0⟩,5⟩) e
 pol:=⟨[0,1,2,33,34],[],[],[]⟩
 pe:=[(.ret,⟨[],[],[],[]⟩),(.exit 2,⟨[],[],[],[]⟩)]
def f116_c {X:Type} (a:TMods×TMods×Bool) (K:(Unit) ⊕ (Unit)->Option X):Option X:=
 (loopAll (f116_l1.m ((nt (List.length a.1.2.1)),a)) 0).bind fun e1=>
 Sum.elim (fun e2=>K (.inl ()))
 (fun e3=>(loopAll (f116_l6.m ((nt (List.length a.1.2.2)),a)) 0).bind fun e4=>
 Sum.elim (fun e5=>K (.inl ()))
 (fun e6=>K (.inr (()))) e4) e1
def f116_m (a:TMods×TMods×Bool):Option ((Unit) ⊕ (Unit)):=f116_c a some
def f116_sp:Spec:=f116_s.sp f116_m
noncomputable def f116_e:Env:=⟨fun k=>[].contains k,callsYL [] [(250004,y250004_sp)],fun X k s K=>if k=1 then f116_l1.q X s K else if k=6 then f116_l6.q X s K else none⟩
noncomputable def f116_l1_c:Code:=subAt [0,1,0,0] (bodyOf Tryz.f116)
theorem f116_l1_ok (hc:SimCall C f116_e.call):LoopSim f116_e.loop (vc par C true [] 52) (.loop f116_l1_c):=
 lO hc f116_l1 (by intros;simp only [f116_l1,LD.m,nn])
noncomputable def f116_l6_c:Code:=subAt [1,1,0,0] (bodyOf Tryz.f116)
theorem f116_l6_ok (hc:SimCall C f116_e.call):LoopSim f116_e.loop (vc par C true [] 52) (.loop f116_l6_c):=
 lO hc f116_l6 (by intros;simp only [f116_l6,LD.m,nn])
theorem f116_ok:OK (8) 116 (f116_s.sp f116_m):=
 fO (d:=7) (env:=f116_e) (callsYL_sim cn (ccy y250004_ok cyn)) (fn:=Tryz.f116) (mc:=@f116_c) (by intros;simp only [f116_m,f116_c,nn]) (hl:=fun hc=>(lp_of (by kernel_rfl) (lp_cons (f116_l1_ok hc) (lp_cons (f116_l6_ok hc) lp_nil))))
def f25_s:FS (TMods×TMods) (Bool) where
 sk:=⟨(.cons (.agg kM) (.cons (.agg kM) .nil)),[],0⟩
 a:=fun u=>((q3 u.1.1),(q3 u.1.2.1))
 n:=fun a=>(((w3 a.1),((w3 a.2),())),())
 o:=fun Z a r K=>K (.bool r) ⟨[],0⟩
def f25_q4:PD (Bool×(TMods×TMods)) ((Unit) ⊕ (Unit)) where
 sk:=⟨[(4,.v (.ptr 0 0)),(19,.v (.fn 116 (.cons (.ptr 1 0) (.cons (.ptr 3 0) .nil))))],[],[.opn (.cons .bool .nil),.opn (.cons (.ptr 2 0) .nil),.opn kM,.opn kM],0,0⟩
 p:=fun u=>(u.2.2.1.1,((q3 u.2.2.2.2.1),(q3 u.2.2.2.2.2.1)))
 n:=fun p=>(((),(((),((),())),())),((),((p.1,()),(((),()),((w3 p.2.1),((w3 p.2.2),()))))))
 st:=fun Y p ke=>(f116_m (p.2.1,p.2.2,p.1)).bind fun r1=>
  Sum.elim (fun r2=>ke (.inl ()))
  (fun r3=>ke (.inr (()))) r1
 o:=fun Z p e K=>Sum.elim (fun e=>K .ret ⟨[(4,.v (.ptr 0 0))],[],⟨[.opn [.bool false]],0⟩,0⟩) (fun e=>K .normal ⟨[(4,.v (.ptr 0 0))],[],⟨[.opn [.bool p.1]],0⟩,0⟩) e
 pol:=⟨[4,19],[],[],[]⟩
 pe:=[(.ret,⟨[4],[],[],[]⟩),(.normal,⟨[4],[],[],[]⟩)]
def f25_c {X:Type} (a:TMods×TMods) (K:Bool->Option X):Option X:=
 cond (!a.1.1)
 (K (!a.1.1))
 (cond (!a.2.1)
 (K (!a.1.1))
 ((f25_q4.m (false,a)).bind fun e1=>
 Sum.elim (fun e2=>K false)
 (fun e3=>K true) e1))
def f25_m (a:TMods×TMods):Option (Bool):=f25_c a some
def f25_sp:Spec:=f25_s.sp f25_m
noncomputable def f25_e:Env:=⟨fun k=>[].contains k,callsL [(63,f63_sp),(116,f116_sp)],fun X k s K=>if k=4 then f25_q4.q X s K else none⟩
theorem f25_q4_ok (hc:SimCall C f25_e.call):LoopSim f25_e.loop (vc par C true [] 28) (.rangeFunc (rfG (subAt [1,1,0,1,0] (bodyOf Tryz.f25))) (rfPs (subAt [1,1,0,1,0] (bodyOf Tryz.f25))) (rfA (subAt [1,1,0,1,0] (bodyOf Tryz.f25))) (rfB (subAt [1,1,0,1,0] (bodyOf Tryz.f25)))):=
 rO (env:=f25_e) hc (id:=250004) (ks:=[4]) f25_q4 (by intros;simp only [f25_q4,PD.m,nn])
theorem f25_ok:OK (9) 25 (f25_s.sp f25_m):=
 fO (d:=8) (env:=f25_e) (callsL_sim (cc f63_ok (cc f116_ok cn))) (fn:=Tryz.f25) (mc:=@f25_c) (by intros;simp only [f25_m,f25_c,nn]) (hl:=fun hc=>(lp_of (by kernel_rfl) (lp_cons (f25_q4_ok hc) lp_nil)))
def f63v1_s:FS (TMods×Bool×(List TCongr)×(List TCongr)) (Unit) where
 sk:=⟨(.cons (.ptr 0 0) (.cons (.agg kM) .nil)),[.opn (.cons .bool (.cons (.all 1) (.cons (.all 2) .nil))),.cells cCongr,.cells cCongr],0⟩
 a:=fun u=>((q3 u.1.2.1),u.2.1.1,u.2.2.1,u.2.2.2.1)
 n:=fun a=>(((),((w3 a.1),())),((a.2.1,((),((),()))),(a.2.2.1,(a.2.2.2,()))))
 o:=fun Z a r K=>K (.fn 116 [.ptr 3 0,.ptr 4 0]) ⟨[.opn [.bool a.2.1,.all 1,.all 2],.cells cCongr a.2.2.1,.cells cCongr a.2.2.2,.opn [.ptr 0 0],.opn [.bool a.1.1,.lit cCongr a.1.2.1,.lit cCongr a.1.2.2]],0⟩
def f63v1_c {X:Type} (a:TMods×Bool×(List TCongr)×(List TCongr)) (K:Unit->Option X):Option X:=
 K ()
def f63v1_m (a:TMods×Bool×(List TCongr)×(List TCongr)):Option (Unit):=f63v1_c a some
def f63v1_sp:Spec:=f63v1_s.sp f63v1_m
noncomputable def f63v1_e:Env:=⟨fun k=>[].contains k,callsL [],fun X k s K=>none⟩
theorem f63v1_ok:OK (1) 63 (f63v1_s.sp f63v1_m):=
 fO (d:=0) (env:=f63v1_e) (callsL_sim cn) (fn:=Tryz.f63) (mc:=@f63v1_c) (by intros;simp only [f63v1_m,f63v1_c,nn])
def y260009_s:FS (Nat×TCongr×(List TCongr)) ((List TCongr)) where
 sk:=⟨(.cons (.yl 0) (.cons (.pel 1 0) (.cons (.agg kC) .nil))),[.loop 260009 [] .ready .normal,.cells cCongr],0⟩
 a:=fun u=>(u.1.2.1,(q3 u.1.2.2.1),u.2.2.1)
 n:=fun a=>(((),(a.1,((w3 a.2.1),()))),((),(a.2.2,())))
 o:=fun Z a r K=>K (.bool true) ⟨[.loop 260009 [] .ready .normal,.cells cCongr r],0⟩
def y260009_c {X:Type} (a:Nat×TCongr×(List TCongr)) (K:(List TCongr)->Option X):Option X:=
 (f51_m ((gx a.2.2 a.1 dCongr),a.2.1)).bind fun r1=>
 K (List.set a.2.2 a.1 r1)
def y260009_m (a:Nat×TCongr×(List TCongr)):Option ((List TCongr)):=y260009_c a some
def y260009_sp:Spec:=y260009_s.sp y260009_m
noncomputable def y260009_e:Env:=⟨fun k=>[].contains k,callsL [(51,f51_sp)],fun X k s K=>none⟩
theorem y260009_ok:OKY (6) y260009_sp:=
 ylOK (d:=5) (env:=y260009_e) (callsL_sim (cc f51_ok cn)) (id:=260009) (r:=rfT 260009) rfl (fun hc=>(lp_of (by kernel_rfl) lp_nil)) (fun hc=>(lp_of (by kernel_rfl) lp_nil)) (mc:=fun X a K=>y260009_c a K) (fun _ _ _=>by kernel_rfl) (by intros;simp only [y260009_m,y260009_c,nn]) (fun _=>rfl)
def f116v1_s:FS (Bool×(List TCongr)×(List TCongr)×TMods) ((List TCongr)×(List TCongr)) where
 sk:=⟨(.cons (.yl 5) (.cons (.ptr 0 0) (.cons (.ptr 4 0) .nil))),[.opn (.cons (.ptr 1 0) .nil),.opn (.cons .bool (.cons (.all 2) (.cons (.all 3) .nil))),.cells cCongr,.cells cCongr,.opn kM,.loop 260009 [] .ready .normal],0⟩
 a:=fun u=>(u.2.2.1.1,u.2.2.2.1,u.2.2.2.2.1,(q3 u.2.2.2.2.2.1))
 n:=fun a=>(((),((),((),()))),(((),()),((a.1,((),((),()))),(a.2.1,(a.2.2.1,((w3 a.2.2.2),((),())))))))
 o:=fun Z a r K=>K (.tup []) ⟨[.opn [.ptr 1 0],.opn [.bool a.1,.all 2,.all 3],.cells cCongr r.1,.cells cCongr r.2,.opn [.bool a.2.2.2.1,.lit cCongr a.2.2.2.2.1,.lit cCongr a.2.2.2.2.2],.loop 260009 [] .ready .normal],0⟩
def f116v1_l1:LD (Int×Bool×((List TCongr)×TMods)) (Int×(List TCongr)) ((List TCongr)) where
 sk:=⟨[(0,.v (.yl 5)),(1,.v (.ptr 0 0)),(2,.v (.ptr 4 0)),(10,.v (.int .i64)),(11,.v (.int .i64))],[],[.opn (.cons (.ptr 1 0) .nil),.opn (.cons .bool (.cons (.all 2) (.cons (.all 3) .nil))),.cells cCongr,.cells cCongr,.opn kM,.loop 260009 [] .ready .normal],0,6⟩
 p:=fun u=>(u.1.2.2.2.1,u.2.2.2.1.1,(u.2.2.2.2.2.1,(q3 u.2.2.2.2.2.2.1)))
 t:=fun u=>(u.1.2.2.2.2.1,u.2.2.2.2.1)
 n:=fun p t=>(((),((),((),(p.1,(t.1,()))))),((),(((),()),((p.2.1,((),((),()))),(t.2,(p.2.2.1,((w3 p.2.2.2),((),()))))))))
 st:=fun Y p t ki ke=>cond (decide (t.1<p.1))
  (ask (V.inRange t.1 (List.length t.2)) (ask (V.inRange t.1 (List.length p.2.2.2.2.1)) ((y260009_m ((Int.toNat t.1),(gx p.2.2.2.2.1 (Int.toNat t.1) dCongr),t.2)).bind fun r1=>
  ki ((wi64 (t.1+(1:Int))),r1))))
  (ke (t.2))
 o:=fun Z p e K=>K (.exit 0) ⟨[(0,.v (.yl 5)),(1,.v (.ptr 0 0)),(2,.v (.ptr 4 0))],[],⟨[.opn [.ptr 1 0],.opn [.bool p.2.1,.all 2,.all 3],.cells cCongr e,.cells cCongr p.2.2.1,.opn [.bool p.2.2.2.1,.lit cCongr p.2.2.2.2.1,.lit cCongr p.2.2.2.2.2],.loop 260009 [] .ready .normal],0⟩,6⟩
 pol:=⟨[0,1,2,10,11],[],[],[]⟩
 pe:=[(.exit 0,⟨[0,1,2],[],[],[]⟩)]
def f116v1_l6:LD (Int×Bool×(List TCongr)×TMods) (Int×(List TCongr)) ((List TCongr)) where
 sk:=⟨[(0,.v (.yl 5)),(1,.v (.ptr 0 0)),(2,.v (.ptr 4 0)),(33,.v (.int .i64)),(34,.v (.int .i64))],[],[.opn (.cons (.ptr 1 0) .nil),.opn (.cons .bool (.cons (.all 2) (.cons (.all 3) .nil))),.cells cCongr,.cells cCongr,.opn kM,.loop 260009 [] .ready .normal],0,6⟩
 p:=fun u=>(u.1.2.2.2.1,u.2.2.2.1.1,u.2.2.2.2.1,(q3 u.2.2.2.2.2.2.1))
 t:=fun u=>(u.1.2.2.2.2.1,u.2.2.2.2.2.1)
 n:=fun p t=>(((),((),((),(p.1,(t.1,()))))),((),(((),()),((p.2.1,((),((),()))),(p.2.2.1,(t.2,((w3 p.2.2.2),((),()))))))))
 st:=fun Y p t ki ke=>cond (decide (t.1<p.1))
  (ask (V.inRange t.1 (List.length t.2)) (ask (V.inRange t.1 (List.length p.2.2.2.2.2)) ((y260009_m ((Int.toNat t.1),(gx p.2.2.2.2.2 (Int.toNat t.1) dCongr),t.2)).bind fun r1=>
  ki ((wi64 (t.1+(1:Int))),r1))))
  (ke (t.2))
 o:=fun Z p e K=>K (.exit 2) ⟨[],[],⟨[.opn [.ptr 1 0],.opn [.bool p.2.1,.all 2,.all 3],.cells cCongr p.2.2.1,.cells cCongr e,.opn [.bool p.2.2.2.1,.lit cCongr p.2.2.2.2.1,.lit cCongr p.2.2.2.2.2],.loop 260009 [] .ready .normal],0⟩,6⟩
 pol:=⟨[0,1,2,33,34],[],[],[]⟩
 pe:=[(.exit 2,⟨[],[],[],[]⟩)]
def f116v1_c {X:Type} (a:Bool×(List TCongr)×(List TCongr)×TMods) (K:(List TCongr)×(List TCongr)->Option X):Option X:=
 (loopAll (f116v1_l1.m ((nt (List.length a.2.1)),a.1,a.2.2)) (0,a.2.1)).bind fun e1=>
 (loopAll (f116v1_l6.m ((nt (List.length a.2.2.1)),a.1,e1,a.2.2.2)) (0,a.2.2.1)).bind fun e2=>
 K (e1,e2)
def f116v1_m (a:Bool×(List TCongr)×(List TCongr)×TMods):Option ((List TCongr)×(List TCongr)):=f116v1_c a some
def f116v1_sp:Spec:=f116v1_s.sp f116v1_m
noncomputable def f116v1_e:Env:=⟨fun k=>[].contains k,callsYL [] [(260009,y260009_sp)],fun X k s K=>if k=1 then f116v1_l1.q X s K else if k=6 then f116v1_l6.q X s K else none⟩
noncomputable def f116v1_l1_c:Code:=subAt [0,1,0,0] (bodyOf Tryz.f116)
theorem f116v1_l1_ok (hc:SimCall C f116v1_e.call):LoopSim f116v1_e.loop (vc par C true [] 52) (.loop f116v1_l1_c):=
 lO hc f116v1_l1 (by intros;simp only [f116v1_l1,LD.m,nn])
noncomputable def f116v1_l6_c:Code:=subAt [1,1,0,0] (bodyOf Tryz.f116)
theorem f116v1_l6_ok (hc:SimCall C f116v1_e.call):LoopSim f116v1_e.loop (vc par C true [] 52) (.loop f116v1_l6_c):=
 lO hc f116v1_l6 (by intros;simp only [f116v1_l6,LD.m,nn])
theorem f116v1_ok:OK (7) 116 (f116v1_s.sp f116v1_m):=
 fO (d:=6) (env:=f116v1_e) (callsYL_sim cn (ccy y260009_ok cyn)) (fn:=Tryz.f116) (mc:=@f116v1_c) (by intros;simp only [f116v1_m,f116v1_c,nn]) (hl:=fun hc=>(lp_of (by kernel_rfl) (lp_cons (f116v1_l1_ok hc) (lp_cons (f116v1_l6_ok hc) lp_nil))))
def f26_s:FS (TMods×TMods) (TMods) where
 sk:=⟨(.cons (.agg kM) (.cons (.agg kM) .nil)),[],0⟩
 a:=fun u=>((q3 u.1.1),(q3 u.1.2.1))
 n:=fun a=>(((w3 a.1),((w3 a.2),())),())
 o:=fun Z a r K=>K (.agg [.bool r.1,.lit cCongr r.2.1,.lit cCongr r.2.2]) ⟨[],0⟩
def f26_q9:PD (Bool×(TMods×TMods)) ((List TCongr)×(List TCongr)) where
 sk:=⟨[(4,.v (.ptr 0 0)),(5,.v (.ptr 1 0)),(33,.v (.fn 116 (.cons (.ptr 4 0) (.cons (.ptr 5 0) .nil))))],[],[.opn (.cons .bool (.cons .nils (.cons .nils .nil))),.opn (.cons .bool (.cons (.all 2) (.cons (.all 3) .nil))),.cells cCongr,.cells cCongr,.opn (.cons (.ptr 1 0) .nil),.opn kM],0,0⟩
 p:=fun u=>(u.2.2.1.1,((u.2.2.2.1.1,(u.2.2.2.2.1,u.2.2.2.2.2.1)),(q3 u.2.2.2.2.2.2.2.1)))
 n:=fun p=>(((),((),(((),((),())),()))),((),((p.1,((),((),()))),((p.2.1.1,((),((),()))),(p.2.1.2.1,(p.2.1.2.2,(((),()),((w3 p.2.2),()))))))))
 st:=fun Y p ke=>(f116v1_m (p.2.1.1,p.2.1.2.1,p.2.1.2.2,p.2.2)).bind fun r1=>
  ke ((r1.1,r1.2))
 o:=fun Z p e K=>K .normal ⟨[(4,.v (.ptr 0 0)),(5,.v (.ptr 1 0))],[],⟨[.opn [.bool p.1,.nils,.nils],.opn [.bool p.2.1.1,.all 2,.all 3],.cells cCongr e.1,.cells cCongr e.2],0⟩,0⟩
 pol:=⟨[4,5,33],[],[],[]⟩
 pe:=[(.normal,⟨[4,5],[],[],[]⟩)]
def f26_c {X:Type} (a:TMods×TMods) (K:TMods->Option X):Option X:=
 cond (!a.1.1)
 (cond (!a.2.1)
 (K (false,([],[])))
 (cond (!a.1.1)
 ((f49_m a.2).bind fun r1=>
 K a.2)
 (cond (!a.2.1)
 ((f49_m a.1).bind fun r2=>
 K a.1)
 ((f49_m a.1).bind fun r3=>
 (f26_q9.m (false,a)).bind fun e4=>
 K (a.1.1,e4)))))
 (cond (!a.1.1)
 ((f49_m a.2).bind fun r5=>
 K a.2)
 (cond (!a.2.1)
 ((f49_m a.1).bind fun r6=>
 K a.1)
 ((f49_m a.1).bind fun r7=>
 (f26_q9.m (false,a)).bind fun e8=>
 K (a.1.1,e8))))
def f26_m (a:TMods×TMods):Option (TMods):=f26_c a some
def f26_sp:Spec:=f26_s.sp f26_m
noncomputable def f26_e:Env:=⟨fun k=>[].contains k,callsL [(49,f49_sp),(63,f63v1_sp),(116,f116v1_sp)],fun X k s K=>if k=9 then f26_q9.q X s K else none⟩
theorem f26_q9_ok (hc:SimCall C f26_e.call):LoopSim f26_e.loop (vc par C true [] 44) (.rangeFunc (rfG (subAt [1,1,1,0,1,0] (bodyOf Tryz.f26))) (rfPs (subAt [1,1,1,0,1,0] (bodyOf Tryz.f26))) (rfA (subAt [1,1,1,0,1,0] (bodyOf Tryz.f26))) (rfB (subAt [1,1,1,0,1,0] (bodyOf Tryz.f26)))):=
 rO (env:=f26_e) hc (id:=260009) (ks:=[]) f26_q9 (by intros;simp only [f26_q9,PD.m,nn])
theorem f26_ok:OK (8) 26 (f26_s.sp f26_m):=
 fO (d:=7) (env:=f26_e) (callsL_sim (cc f49_ok (cc f63v1_ok (cc f116v1_ok cn)))) (fn:=Tryz.f26) (mc:=@f26_c) (by intros;simp only [f26_m,f26_c,nn]) (sh:=(.agg [.any,(.lit cCongr),(.lit cCongr)])) (fz:=true) (hl:=fun hc=>(lp_of (by kernel_rfl) (lp_cons (f26_q9_ok hc) lp_nil)))
def f21_s:FS (TGraph) ((List TMods)) where
 sk:=⟨(.cons (.agg kG) .nil),[],0⟩
 a:=fun u=>(q8 u.1.1)
 n:=fun a=>(((w8 a),()),())
 o:=fun Z a r K=>K (.lit cMods r) ⟨[],0⟩
def f21_l12:LD ((List Int)×Int×(List Int)×Int×Int×TItv×TGraph) (Int×(List TMods)×(List (Int×Bool))) ((List TMods)×(List (Int×Bool))) where
 sk:=⟨[(1,.loc 0 0),(3,.v (.all 0)),(4,.v (.mp 1)),(5,.v (.lit (.int .i64))),(7,.v (.int .i64)),(26,.v (.lit (.int .i64))),(27,.v (.int .i64)),(28,.v (.int .i64)),(43,.v (.agg kI)),(44,.v (.int .i64))],[kG],[.cells cMods,.mapT (.int .i64) false .bool],0,0⟩
 p:=fun u=>(u.1.2.2.1,u.1.2.2.2.1,u.1.2.2.2.2.1,u.1.2.2.2.2.2.1,u.1.2.2.2.2.2.2.1,(u.1.2.2.2.2.2.2.2.1.1,u.1.2.2.2.2.2.2.2.1.2.1),(q8 u.2.1.1))
 t:=fun u=>(u.1.2.2.2.2.2.2.2.2.1,u.2.2.1,u.2.2.2.1)
 n:=fun p t=>(((),((),(p.1,(p.2.1,(p.2.2.1,(p.2.2.2.1,(p.2.2.2.2.1,((p.2.2.2.2.2.1.1,(p.2.2.2.2.2.1.2,())),(t.1,()))))))))),(((w8 p.2.2.2.2.2.2),()),(t.2.1,(t.2.2,()))))
 st:=fun Y p t ki ke=>cond (decide (t.1<(2:Int)))
  (cond (decide (t.1=(0:Int)))
  (cond (decide (p.2.2.2.2.2.1.1<(0:Int)))
  (ki ((wi64 (t.1+(1:Int))),t.2.1,t.2.2))
  (ask (V.inRange p.2.1 (List.length t.2.1)) ((f16_m (p.2.2.2.2.2.2,(gx t.2.1 (Int.toNat p.2.1) dMods),p.2.1,t.1)).bind fun r1=>
  ask (V.inRange p.2.2.2.2.2.1.1 (List.length t.2.1)) ((f25_m (r1,(gx t.2.1 (Int.toNat p.2.2.2.2.2.1.1) dMods))).bind fun r2=>
  cond (!r2)
  (ask (V.inRange p.2.2.2.2.2.1.1 (List.length t.2.1)) ((f26_m ((gx t.2.1 (Int.toNat p.2.2.2.2.2.1.1) dMods),r1)).bind fun r3=>
  ask (V.inRange p.2.2.2.2.2.1.1 (List.length t.2.1)) (ki ((wi64 (t.1+(1:Int))),(List.set t.2.1 (Int.toNat p.2.2.2.2.2.1.1) r3),(setT (k:=(.int .i64)) p.2.2.2.2.2.1.1 true t.2.2)))))
  (ki ((wi64 (t.1+(1:Int))),t.2.1,t.2.2))))))
  (cond (decide (t.1=(1:Int)))
  (cond (decide (p.2.2.2.2.2.1.2<(0:Int)))
  (ki ((wi64 (t.1+(1:Int))),t.2.1,t.2.2))
  (ask (V.inRange p.2.1 (List.length t.2.1)) ((f16_m (p.2.2.2.2.2.2,(gx t.2.1 (Int.toNat p.2.1) dMods),p.2.1,t.1)).bind fun r4=>
  ask (V.inRange p.2.2.2.2.2.1.2 (List.length t.2.1)) ((f25_m (r4,(gx t.2.1 (Int.toNat p.2.2.2.2.2.1.2) dMods))).bind fun r5=>
  cond (!r5)
  (ask (V.inRange p.2.2.2.2.2.1.2 (List.length t.2.1)) ((f26_m ((gx t.2.1 (Int.toNat p.2.2.2.2.2.1.2) dMods),r4)).bind fun r6=>
  ask (V.inRange p.2.2.2.2.2.1.2 (List.length t.2.1)) (ki ((wi64 (t.1+(1:Int))),(List.set t.2.1 (Int.toNat p.2.2.2.2.2.1.2) r6),(setT (k:=(.int .i64)) p.2.2.2.2.2.1.2 true t.2.2)))))
  (ki ((wi64 (t.1+(1:Int))),t.2.1,t.2.2))))))
  (none)))
  (ke ((t.2.1,t.2.2)))
 o:=fun Z p e K=>K (.exit 4) ⟨[(1,.loc 0 0),(3,.v (.all 0)),(4,.v (.mp 1)),(5,.v (.lit (.int .i64) p.1)),(26,.v (.lit (.int .i64) p.2.2.1)),(27,.v (.int .i64 p.2.2.2.1)),(28,.v (.int .i64 p.2.2.2.2.1))],[[.lit cInstr p.2.2.2.2.2.2.1,.int .i64 p.2.2.2.2.2.2.2.1,.int .i64 p.2.2.2.2.2.2.2.2.1,.int .i64 p.2.2.2.2.2.2.2.2.2.1,.lit cArray p.2.2.2.2.2.2.2.2.2.2.1,.lit cScalar p.2.2.2.2.2.2.2.2.2.2.2.1,.lit cArray p.2.2.2.2.2.2.2.2.2.2.2.2.1,.lit cItv p.2.2.2.2.2.2.2.2.2.2.2.2.2]],⟨[.cells cMods e.1,.mapT (.int .i64) false .bool e.2],0⟩,0⟩
 pol:=⟨[1,3,4,5,7,26,27,28,43,44],[],[],[]⟩
 pe:=[(.exit 4,⟨[1,3,4,5,26,27,28],[],[],[]⟩)]
def f21_l7:LD ((List Int)×(List Int)×Int×TGraph) (Int×(List TMods)×(List (Int×Bool))) ((List TMods)×(List (Int×Bool))) where
 sk:=⟨[(1,.loc 0 0),(3,.v (.all 0)),(4,.v (.mp 1)),(5,.v (.lit (.int .i64))),(26,.v (.lit (.int .i64))),(27,.v (.int .i64)),(28,.v (.int .i64))],[kG],[.cells cMods,.mapT (.int .i64) false .bool],0,0⟩
 p:=fun u=>(u.1.2.2.1,u.1.2.2.2.1,u.1.2.2.2.2.1,(q8 u.2.1.1))
 t:=fun u=>(u.1.2.2.2.2.2.1,u.2.2.1,u.2.2.2.1)
 n:=fun p t=>(((),((),(p.1,(p.2.1,(p.2.2.1,(t.1,())))))),(((w8 p.2.2.2),()),(t.2.1,(t.2.2,()))))
 st:=fun Y p t ki ke=>cond (decide (t.1<p.2.2.1))
  (ask (V.inRange t.1 (List.length p.2.1)) (cond (hasT (k:=(.int .i64)) (gx p.2.1 (Int.toNat t.1) (0:Int)) t.2.2)
  (cond (!(getT (k:=(.int .i64)) (gx p.2.1 (Int.toNat t.1) (0:Int)) false t.2.2))
  (ki ((wi64 (t.1+(1:Int))),t.2.1,t.2.2))
  (ask (V.inRange (gx p.2.1 (Int.toNat t.1) (0:Int)) (List.length p.2.2.2.1)) ((loopAll (f21_l12.m (p.1,(gx p.2.1 (Int.toNat t.1) (0:Int)),p.2.1,p.2.2.1,t.1,(gx p.2.2.2.1 (Int.toNat (gx p.2.1 (Int.toNat t.1) (0:Int))) dInstr).2.2.2.2.2.2,p.2.2.2)) (0,t.2.1,(delT (k:=(.int .i64)) (gx p.2.1 (Int.toNat t.1) (0:Int)) t.2.2))).bind fun e1=>
  ki ((wi64 (t.1+(1:Int))),e1.1,e1.2))))
  (ki ((wi64 (t.1+(1:Int))),t.2.1,t.2.2))))
  (ke ((t.2.1,t.2.2)))
 o:=fun Z p e K=>K (.exit 2) ⟨[(1,.loc 0 0),(3,.v (.all 0)),(4,.v (.mp 1)),(5,.v (.lit (.int .i64) p.1))],[[.lit cInstr p.2.2.2.1,.int .i64 p.2.2.2.2.1,.int .i64 p.2.2.2.2.2.1,.int .i64 p.2.2.2.2.2.2.1,.lit cArray p.2.2.2.2.2.2.2.1,.lit cScalar p.2.2.2.2.2.2.2.2.1,.lit cArray p.2.2.2.2.2.2.2.2.2.1,.lit cItv p.2.2.2.2.2.2.2.2.2.2]],⟨[.cells cMods e.1,.mapT (.int .i64) false .bool e.2],0⟩,0⟩
 pol:=⟨[1,3,4,5,26,27,28],[],[],[]⟩
 pe:=[(.exit 2,⟨[1,3,4,5],[],[],[]⟩)]
def f21_l5:LD ((List Int)×TGraph) ((List TMods)×(List (Int×Bool))) ((List TMods)) where
 sk:=⟨[(1,.loc 0 0),(3,.v (.all 0)),(4,.v (.mp 1)),(5,.v (.lit (.int .i64)))],[kG],[.cells cMods,.mapT (.int .i64) false .bool],0,0⟩
 p:=fun u=>(u.1.2.2.1,(q8 u.2.1.1))
 t:=fun u=>(u.2.2.1,u.2.2.2.1)
 n:=fun p t=>(((),((),(p.1,()))),(((w8 p.2),()),(t.1,(t.2,()))))
 st:=fun Y p t ki ke=>cond (decide ((0:Int)<(nt (List.length t.2))))
  ((loopAll (f21_l7.m (p.1,p.1,(nt (List.length p.1)),p.2)) (0,t.1,t.2)).bind fun e1=>
  ki (e1.1,e1.2))
  (ke (t.1))
 o:=fun Z p e K=>K (.exit 0) ⟨[(3,.v (.all 0))],[],⟨[.cells cMods e],0⟩,0⟩
 pol:=⟨[1,3,4,5],[],[],[]⟩
 pe:=[(.exit 0,⟨[3],[],[],[]⟩)]
def f21_c {X:Type} (a:TGraph) (K:(List TMods)->Option X):Option X:=
 ask (decide (0<=(nt (List.length a.1)))&&decide ((nt (List.length a.1))<=(nt (List.length a.1)))&&decide (56 * (nt (List.length a.1))<=70368744177664)&&decide ((nt (List.length a.1))<9223372036854775808)) ((f32_m a).bind fun r1=>
 ask (V.inRange 0 (List.length (List.replicate (Int.toNat (nt (List.length a.1))) ((false,([],[])):TMods)))) ((f58_m a).bind fun r2=>
 (loopAll (f21_l5.m (r2,a)) ((List.set (List.replicate (Int.toNat (nt (List.length a.1))) ((false,([],[])):TMods)) 0 (true,r1)),(setT (k:=(.int .i64)) (0:Int) true ([]:List (Int×Bool))))).bind fun e3=>
 K e3))
def f21_m (a:TGraph):Option ((List TMods)):=f21_c a some
def f21_sp:Spec:=f21_s.sp f21_m
noncomputable def f21_e:Env:=⟨fun k=>[].contains k,callsL [(32,f32_sp),(58,f58_sp),(16,f16_sp),(25,f25_sp),(26,f26_sp)],fun X k s K=>if k=12 then f21_l12.q X s K else if k=7 then f21_l7.q X s K else if k=5 then f21_l5.q X s K else none⟩
noncomputable def f21_l12_c:Code:=subAt [1,1,1,1,1,0,0,0,1,0,1,0,0,1,1,0,0,1,1,1,1,0,0] (bodyOf Tryz.f21)
theorem f21_l12_ok (hc:SimCall C f21_e.call):LoopSim f21_e.loop (vc par C true [1,10] 79) (.loop f21_l12_c):=
 lO hc f21_l12 (by intros;simp only [f21_l12,LD.m,nn])
noncomputable def f21_l7_c:Code:=subAt [1,1,1,1,1,0,0,0,1,0,1,0,0] (bodyOf Tryz.f21)
theorem f21_l7_ok (hc:SimCall C f21_e.call):LoopSim f21_e.loop (vc par C true [1,10] 79) (.loop f21_l7_c):=
 lO hc f21_l7 (by intros;simp only [f21_l7,LD.m,nn]) (hl:=(lp_of (by kernel_rfl) (lp_cons (f21_l12_ok hc) lp_nil)))
noncomputable def f21_l5_c:Code:=subAt [1,1,1,1,1,0,0,0] (bodyOf Tryz.f21)
theorem f21_l5_ok (hc:SimCall C f21_e.call):LoopSim f21_e.loop (vc par C true [1,10] 79) (.loop f21_l5_c):=
 lO hc f21_l5 (by intros;simp only [f21_l5,LD.m,nn]) (hl:=(lp_of (by kernel_rfl) (lp_cons (f21_l7_ok hc) lp_nil)))
theorem f21_ok:OK (166020696663385964547) 21 (f21_s.sp f21_m):=
 fO (d:=166020696663385964546) (env:=f21_e) (callsL_sim (cc f32_ok (cc f58_ok (cc f16_ok (cc f25_ok (cc f26_ok cn)))))) (fn:=Tryz.f21) (mc:=@f21_c) (by intros;simp only [f21_m,f21_c,nn]) (locs:=[1,10]) (sh:=(.lit cMods)) (fz:=true) (hl:=fun hc=>(lp_of (by kernel_rfl) (lp_cons (f21_l5_ok hc) lp_nil)))
end
end Go.U
end
