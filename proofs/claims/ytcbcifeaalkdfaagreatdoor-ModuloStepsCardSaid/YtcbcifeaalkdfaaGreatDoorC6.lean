/- The functions of the program as Lean functions, and that the evaluator says so. -/
import Derived.Test.YtcbcifeaalkdfaaGreatDoorC5
set_option linter.unusedVariables false
set_option linter.unusedSimpArgs false
set_option linter.unusedSectionVars false
section
set_option maxRecDepth 100000
namespace Go.U
open Go Go.Proofs
noncomputable section
variable {C:V.Callee}
section
variable [Rec47v1]
def f47v1_c {X:Type} (a:Int×TGraph×Bool×(List TCongr)×(List TCongr)×(List (Int×TInstr))×(List (Int×TCongr))) (K:(TCongr×(List (Int×TCongr)))->Option X):Option X:=
 cond (!a.2.2.1)
 (K ((true,(0,0)),a.2.2.2.2.2.2))
 (cond (decide (a.1<(nt (List.length a.2.1.2.2.2.2.2.1))))
 (ask (V.inRange a.1 (List.length a.2.2.2.1)) (K ((gx a.2.2.2.1 (Int.toNat a.1) dCongr),a.2.2.2.2.2.2)))
 (cond (hasT (k:=(.int .i64)) a.1 a.2.2.2.2.2.2)
 (K ((getT (k:=(.int .i64)) a.1 dCongr a.2.2.2.2.2.2),a.2.2.2.2.2.2))
 (cond (hasT (k:=(.int .i64)) a.1 a.2.2.2.2.2.1)
 ((f94v1_m ((getT (k:=(.int .i64)) a.1 dInstr a.2.2.2.2.2.1),a.2.1,a.2.2.1,a.2.2.2.1,a.2.2.2.2.1,a.2.2.2.2.2.1,a.2.2.2.2.2.2)).bind fun r1=>
 K (r1.1,(setT (k:=(.int .i64)) a.1 r1.1 r1.2)))
 ((f94v1_m ((0,(0,(0,(0,(0,(0,(0,0))))))),a.2.1,a.2.2.1,a.2.2.2.1,a.2.2.2.2.1,a.2.2.2.2.2.1,a.2.2.2.2.2.2)).bind fun r2=>
 K (r2.1,(setT (k:=(.int .i64)) a.1 r2.1 r2.2))))))
def f47v1_m (a:Int×TGraph×Bool×(List TCongr)×(List TCongr)×(List (Int×TInstr))×(List (Int×TCongr))):Option (TCongr×(List (Int×TCongr))):=f47v1_c a some
noncomputable def f47v1_e:Env:=⟨fun k=>[].contains k,callsL [(84,f84_sp),(94,f94v1_sp)],fun X k s K=>none⟩
theorem f47v1_okS {D:Nat} (hrec:OK D 47 f47v1_sp):OK (D+9) 47 (f47v1_s.sp f47v1_m):=
 fO (d:=D+8) (env:=f47v1_e) (callsL_sim (cc f84_ok (cc (f94v1_ok hrec) cn))) (fn:=Tryz.f47) (mc:=fun X a K=>f47v1_c a K) (by intros;simp only [f47v1_m,f47v1_c,nn]) (locs:=[4,5,7])
end
def f47v1_ev:Nat->(Int×TGraph×Bool×(List TCongr)×(List TCongr)×(List (Int×TInstr))×(List (Int×TCongr)))->Option (TCongr×(List (Int×TCongr)))
 |0,_=>none
 |n+1,a=>@f47v1_m ⟨f47v1_ev n⟩ a
theorem f47v1_ev_ok:∀ n,OK (n * 9) 47 (f47v1_s.sp (f47v1_ev n))
 |0=>OK_none fun _=>rfl
 |n+1=>OK_le (@f47v1_okS ⟨f47v1_ev n⟩ _ (f47v1_ev_ok n)) (by omega)
def f47v1_fuel:Nat:=18446744073709551616
noncomputable instance:Rec47v1:=⟨f47v1_ev f47v1_fuel⟩
theorem f47v1_ok:OK 166020696663385964544 47 f47v1_sp:=OK_le (f47v1_ev_ok f47v1_fuel) (by unfold f47v1_fuel;omega)
def f52v1_s:FS (TInstr×Int×Bool×TGraph×Bool×(List TCongr)×(List TCongr)×(List (Int×TInstr))×(List (Int×TCongr))×(List TCongr)×(List TCongr)) (TMods×(List (Int×TCongr))) where
 sk:=⟨(.cons (.ptr 0 0) (.cons (.agg kN) (.cons (.int .i64) (.cons (.agg (.cons .bool (.cons (.all 6) (.cons (.all 7) .nil)))) .nil)))),[.opn (.cons (.lit cInstr) (.cons (.int .i64) (.cons (.int .i64) (.cons (.int .i64) (.cons (.lit cArray) (.cons (.lit cScalar) (.cons (.lit cArray) (.cons (.lit cItv) (.cons .bool (.cons (.all 1) (.cons (.all 2) (.cons (.mp 3) (.cons (.mp 4) (.cons (.mp 5) .nil)))))))))))))),.cells cCongr,.cells cCongr,.mapT (.int .i64) true cInstr,.mapT (.int .i64) true cCongr,.mapL (.int .i64) [((2:Int),(.fn 85 .nil)),((3:Int),(.fn 87 .nil)),((4:Int),(.fn 89 .nil)),((5:Int),(.fn 90 .nil)),((6:Int),(.fn 91 .nil)),((7:Int),(.fn 92 .nil)),((8:Int),(.fn 93 .nil)),((9:Int),(.fn 83 .nil)),((10:Int),(.fn 83 .nil))],.cells cCongr,.cells cCongr],0⟩
 a:=fun u=>((q8 u.1.2.1),u.1.2.2.1,u.1.2.2.2.1.1,(q8 u.2.1),u.2.1.2.2.2.2.2.2.2.2.1,u.2.2.1,u.2.2.2.1,u.2.2.2.2.1,u.2.2.2.2.2.1,u.2.2.2.2.2.2.2.1,u.2.2.2.2.2.2.2.2.1)
 n:=fun a=>(((),((w8 a.1),(a.2.1,((a.2.2.1,((),((),()))),())))),((a.2.2.2.1.1,(a.2.2.2.1.2.1,(a.2.2.2.1.2.2.1,(a.2.2.2.1.2.2.2.1,(a.2.2.2.1.2.2.2.2.1,(a.2.2.2.1.2.2.2.2.2.1,(a.2.2.2.1.2.2.2.2.2.2.1,(a.2.2.2.1.2.2.2.2.2.2.2,(a.2.2.2.2.1,((),((),((),((),((),())))))))))))))),(a.2.2.2.2.2.1,(a.2.2.2.2.2.2.1,(a.2.2.2.2.2.2.2.1,(a.2.2.2.2.2.2.2.2.1,(((),((),((),((),((),((),((),((),((),()))))))))),(a.2.2.2.2.2.2.2.2.2.1,(a.2.2.2.2.2.2.2.2.2.2,())))))))))
 o:=fun Z a r K=>K (.agg [.bool r.1.1,.lit cCongr r.1.2.1,.lit cCongr r.1.2.2]) ⟨[.opn [.lit cInstr a.2.2.2.1.1,.int .i64 a.2.2.2.1.2.1,.int .i64 a.2.2.2.1.2.2.1,.int .i64 a.2.2.2.1.2.2.2.1,.lit cArray a.2.2.2.1.2.2.2.2.1,.lit cScalar a.2.2.2.1.2.2.2.2.2.1,.lit cArray a.2.2.2.1.2.2.2.2.2.2.1,.lit cItv a.2.2.2.1.2.2.2.2.2.2.2,.bool a.2.2.2.2.1,.all 1,.all 2,.mp 3,.mp 4,.mp 5],.cells cCongr a.2.2.2.2.2.1,.cells cCongr a.2.2.2.2.2.2.1,.mapT (.int .i64) true cInstr a.2.2.2.2.2.2.2.1,.mapT (.int .i64) true cCongr r.2,.mapL (.int .i64) [((2:Int),.fn 85 []),((3:Int),.fn 87 []),((4:Int),.fn 89 []),((5:Int),.fn 90 []),((6:Int),.fn 91 []),((7:Int),.fn 92 []),((8:Int),.fn 93 []),((9:Int),.fn 83 []),((10:Int),.fn 83 [])],.dead,.dead],0⟩
def f52v1_l8:LD (Int×Int×Bool×Bool×(TCongr×TCongr)×TGraph×Bool×(List TCongr)×(List TCongr)×(List (Int×TInstr))×(List (Int×TCongr))×(List TCongr)) (Int×(List TCongr)) (((List TCongr)) ⊕ ((List TCongr))) where
 sk:=⟨[(0,.v (.ptr 0 0)),(7,.loc 0 0),(8,.loc 1 0),(10,.loc 2 0),(11,.loc 3 0),(44,.v (.agg kI)),(45,.v (.int .i64))],[(.cons .bool (.cons (.all 6) (.cons (.all 7) .nil))),(.cons .bool (.cons .nils (.cons .nils .nil))),kC,kC],[.opn (.cons (.lit cInstr) (.cons (.int .i64) (.cons (.int .i64) (.cons (.int .i64) (.cons (.lit cArray) (.cons (.lit cScalar) (.cons (.lit cArray) (.cons (.lit cItv) (.cons .bool (.cons (.all 1) (.cons (.all 2) (.cons (.mp 3) (.cons (.mp 4) (.cons (.mp 5) .nil)))))))))))))),.cells cCongr,.cells cCongr,.mapT (.int .i64) true cInstr,.mapT (.int .i64) true cCongr,.mapL (.int .i64) [((2:Int),(.fn 85 .nil)),((3:Int),(.fn 87 .nil)),((4:Int),(.fn 89 .nil)),((5:Int),(.fn 90 .nil)),((6:Int),(.fn 91 .nil)),((7:Int),(.fn 92 .nil)),((8:Int),(.fn 93 .nil)),((9:Int),(.fn 83 .nil)),((10:Int),(.fn 83 .nil))],.cells cCongr,.cells cCongr],0,8⟩
 p:=fun u=>(u.1.2.1.1,u.1.2.1.2.1,u.2.1.1.1,u.2.1.2.1.1,((q3 u.2.1.2.2.1),(q3 u.2.1.2.2.2.1)),(q8 u.2.2.1),u.2.2.1.2.2.2.2.2.2.2.2.1,u.2.2.2.1,u.2.2.2.2.1,u.2.2.2.2.2.1,u.2.2.2.2.2.2.1,u.2.2.2.2.2.2.2.2.2.1)
 t:=fun u=>(u.1.2.2.1,u.2.2.2.2.2.2.2.2.1)
 n:=fun p t=>(((),((p.1,(p.2.1,())),(t.1,()))),(((p.2.2.1,((),((),()))),((p.2.2.2.1,((),((),()))),((w3 p.2.2.2.2.1.1),((w3 p.2.2.2.2.1.2),())))),((p.2.2.2.2.2.1.1,(p.2.2.2.2.2.1.2.1,(p.2.2.2.2.2.1.2.2.1,(p.2.2.2.2.2.1.2.2.2.1,(p.2.2.2.2.2.1.2.2.2.2.1,(p.2.2.2.2.2.1.2.2.2.2.2.1,(p.2.2.2.2.2.1.2.2.2.2.2.2.1,(p.2.2.2.2.2.1.2.2.2.2.2.2.2,(p.2.2.2.2.2.2.1,((),((),((),((),((),())))))))))))))),(p.2.2.2.2.2.2.2.1,(p.2.2.2.2.2.2.2.2.1,(p.2.2.2.2.2.2.2.2.2.1,(p.2.2.2.2.2.2.2.2.2.2.1,(((),((),((),((),((),((),((),((),((),()))))))))),(t.2,(p.2.2.2.2.2.2.2.2.2.2.2,()))))))))))
 st:=fun Y p t ki ke=>cond (decide (t.1<(2:Int)))
  (cond (decide (t.1=(0:Int)))
  (cond (decide (p.1<(nt (List.length p.2.2.2.2.2.1.2.2.2.2.2.1))))
  (ask (V.inRange p.1 (List.length t.2)) (cond (decide (t.1=(0:Int)))
  ((f102_m ((gx t.2 (Int.toNat p.1) dCongr),p.2.2.2.2.1.1)).bind fun r1=>
  ask (V.inRange p.1 (List.length t.2)) (ask (V.inRange p.1 (List.length (List.set t.2 (Int.toNat p.1) r1))) (cond (gx (List.set t.2 (Int.toNat p.1) r1) (Int.toNat p.1) dCongr).1
  (ke (.inl (List.set t.2 (Int.toNat p.1) r1)))
  (ki ((wi64 (t.1+(1:Int))),(List.set t.2 (Int.toNat p.1) r1))))))
  (cond (decide (t.1=(1:Int)))
  ((f102_m ((gx t.2 (Int.toNat p.1) dCongr),p.2.2.2.2.1.2)).bind fun r2=>
  ask (V.inRange p.1 (List.length t.2)) (ask (V.inRange p.1 (List.length (List.set t.2 (Int.toNat p.1) r2))) (cond (gx (List.set t.2 (Int.toNat p.1) r2) (Int.toNat p.1) dCongr).1
  (ke (.inl (List.set t.2 (Int.toNat p.1) r2)))
  (ki ((wi64 (t.1+(1:Int))),(List.set t.2 (Int.toNat p.1) r2))))))
  (none))))
  (ki ((wi64 (t.1+(1:Int))),t.2)))
  (cond (decide (t.1=(1:Int)))
  (cond (decide (p.2.1<(nt (List.length p.2.2.2.2.2.1.2.2.2.2.2.1))))
  (ask (V.inRange p.2.1 (List.length t.2)) (cond (decide (t.1=(0:Int)))
  ((f102_m ((gx t.2 (Int.toNat p.2.1) dCongr),p.2.2.2.2.1.1)).bind fun r3=>
  ask (V.inRange p.2.1 (List.length t.2)) (ask (V.inRange p.2.1 (List.length (List.set t.2 (Int.toNat p.2.1) r3))) (cond (gx (List.set t.2 (Int.toNat p.2.1) r3) (Int.toNat p.2.1) dCongr).1
  (ke (.inl (List.set t.2 (Int.toNat p.2.1) r3)))
  (ki ((wi64 (t.1+(1:Int))),(List.set t.2 (Int.toNat p.2.1) r3))))))
  (cond (decide (t.1=(1:Int)))
  ((f102_m ((gx t.2 (Int.toNat p.2.1) dCongr),p.2.2.2.2.1.2)).bind fun r4=>
  ask (V.inRange p.2.1 (List.length t.2)) (ask (V.inRange p.2.1 (List.length (List.set t.2 (Int.toNat p.2.1) r4))) (cond (gx (List.set t.2 (Int.toNat p.2.1) r4) (Int.toNat p.2.1) dCongr).1
  (ke (.inl (List.set t.2 (Int.toNat p.2.1) r4)))
  (ki ((wi64 (t.1+(1:Int))),(List.set t.2 (Int.toNat p.2.1) r4))))))
  (none))))
  (ki ((wi64 (t.1+(1:Int))),t.2)))
  (none)))
  (ke (.inr (t.2)))
 o:=fun Z p e K=>Sum.elim (fun e=>K .ret ⟨[(8,.loc 0 0)],[[.bool false,.nils,.nils]],⟨[.opn [.lit cInstr p.2.2.2.2.2.1.1,.int .i64 p.2.2.2.2.2.1.2.1,.int .i64 p.2.2.2.2.2.1.2.2.1,.int .i64 p.2.2.2.2.2.1.2.2.2.1,.lit cArray p.2.2.2.2.2.1.2.2.2.2.1,.lit cScalar p.2.2.2.2.2.1.2.2.2.2.2.1,.lit cArray p.2.2.2.2.2.1.2.2.2.2.2.2.1,.lit cItv p.2.2.2.2.2.1.2.2.2.2.2.2.2,.bool p.2.2.2.2.2.2.1,.all 1,.all 2,.mp 3,.mp 4,.mp 5],.cells cCongr p.2.2.2.2.2.2.2.1,.cells cCongr p.2.2.2.2.2.2.2.2.1,.mapT (.int .i64) true cInstr p.2.2.2.2.2.2.2.2.2.1,.mapT (.int .i64) true cCongr p.2.2.2.2.2.2.2.2.2.2.1,.mapL (.int .i64) [((2:Int),.fn 85 []),((3:Int),.fn 87 []),((4:Int),.fn 89 []),((5:Int),.fn 90 []),((6:Int),.fn 91 []),((7:Int),.fn 92 []),((8:Int),.fn 93 []),((9:Int),.fn 83 []),((10:Int),.fn 83 [])],.cells cCongr e,.cells cCongr p.2.2.2.2.2.2.2.2.2.2.2],0⟩,8⟩) (fun e=>K (.exit 0) ⟨[(7,.loc 0 0),(8,.loc 1 0)],[[.bool p.2.2.1,.all 6,.all 7],[.bool p.2.2.2.1,.nils,.nils]],⟨[.opn [.lit cInstr p.2.2.2.2.2.1.1,.int .i64 p.2.2.2.2.2.1.2.1,.int .i64 p.2.2.2.2.2.1.2.2.1,.int .i64 p.2.2.2.2.2.1.2.2.2.1,.lit cArray p.2.2.2.2.2.1.2.2.2.2.1,.lit cScalar p.2.2.2.2.2.1.2.2.2.2.2.1,.lit cArray p.2.2.2.2.2.1.2.2.2.2.2.2.1,.lit cItv p.2.2.2.2.2.1.2.2.2.2.2.2.2,.bool p.2.2.2.2.2.2.1,.all 1,.all 2,.mp 3,.mp 4,.mp 5],.cells cCongr p.2.2.2.2.2.2.2.1,.cells cCongr p.2.2.2.2.2.2.2.2.1,.mapT (.int .i64) true cInstr p.2.2.2.2.2.2.2.2.2.1,.mapT (.int .i64) true cCongr p.2.2.2.2.2.2.2.2.2.2.1,.mapL (.int .i64) [((2:Int),.fn 85 []),((3:Int),.fn 87 []),((4:Int),.fn 89 []),((5:Int),.fn 90 []),((6:Int),.fn 91 []),((7:Int),.fn 92 []),((8:Int),.fn 93 []),((9:Int),.fn 83 []),((10:Int),.fn 83 [])],.cells cCongr e,.cells cCongr p.2.2.2.2.2.2.2.2.2.2.2],0⟩,8⟩) e
 pol:=⟨[0,7,8,10,11,44,45],[],[],[]⟩
 pe:=[(.ret,⟨[8],[],[],[]⟩),(.exit 0,⟨[7,8],[],[],[]⟩)]
def f52v1_c {X:Type} (a:TInstr×Int×Bool×TGraph×Bool×(List TCongr)×(List TCongr)×(List (Int×TInstr))×(List (Int×TCongr))×(List TCongr)×(List TCongr)) (K:(TMods×(List (Int×TCongr)))->Option X):Option X:=
 cond (decide (a.2.1=(1:Int)))
 ((f100_m a.1.2.2.2.2.1).bind fun r1=>
 (Rec47v1.m (a.1.2.2.1,a.2.2.2.1,a.2.2.2.2.1,a.2.2.2.2.2.1,a.2.2.2.2.2.2.1,a.2.2.2.2.2.2.2.1,a.2.2.2.2.2.2.2.2.1)).bind fun r2=>
 (Rec47v1.m (a.1.2.2.2.1,a.2.2.2.1,a.2.2.2.2.1,a.2.2.2.2.2.1,a.2.2.2.2.2.2.1,a.2.2.2.2.2.2.2.1,r2.2)).bind fun r3=>
 (f101_m (r1,r2.1,r3.1)).bind fun r4=>
 cond r4.1.1
 (cond r4.2.1
 (K ((false,([],[])),r3.2))
 ((loopAll (f52v1_l8.m (a.1.2.2.1,a.1.2.2.2.1,a.2.2.1,false,r4,a.2.2.2.1,a.2.2.2.2.1,a.2.2.2.2.2.1,a.2.2.2.2.2.2.1,a.2.2.2.2.2.2.2.1,r3.2,a.2.2.2.2.2.2.2.2.2.2)) (0,a.2.2.2.2.2.2.2.2.2.1)).bind fun e5=>
 Sum.elim (fun e6=>K ((false,([],[])),r3.2))
 (fun e7=>K ((a.2.2.1,(e7,a.2.2.2.2.2.2.2.2.2.2)),r3.2)) e5))
 ((loopAll (f52v1_l8.m (a.1.2.2.1,a.1.2.2.2.1,a.2.2.1,false,r4,a.2.2.2.1,a.2.2.2.2.1,a.2.2.2.2.2.1,a.2.2.2.2.2.2.1,a.2.2.2.2.2.2.2.1,r3.2,a.2.2.2.2.2.2.2.2.2.2)) (0,a.2.2.2.2.2.2.2.2.2.1)).bind fun e8=>
 Sum.elim (fun e9=>K ((false,([],[])),r3.2))
 (fun e10=>K ((a.2.2.1,(e10,a.2.2.2.2.2.2.2.2.2.2)),r3.2)) e8))
 ((Rec47v1.m (a.1.2.2.1,a.2.2.2.1,a.2.2.2.2.1,a.2.2.2.2.2.1,a.2.2.2.2.2.2.1,a.2.2.2.2.2.2.2.1,a.2.2.2.2.2.2.2.2.1)).bind fun r11=>
 (Rec47v1.m (a.1.2.2.2.1,a.2.2.2.1,a.2.2.2.2.1,a.2.2.2.2.2.1,a.2.2.2.2.2.2.1,a.2.2.2.2.2.2.2.1,r11.2)).bind fun r12=>
 (f101_m (a.1.2.2.2.2.1,r11.1,r12.1)).bind fun r13=>
 cond r13.1.1
 (cond r13.2.1
 (K ((false,([],[])),r12.2))
 ((loopAll (f52v1_l8.m (a.1.2.2.1,a.1.2.2.2.1,a.2.2.1,false,r13,a.2.2.2.1,a.2.2.2.2.1,a.2.2.2.2.2.1,a.2.2.2.2.2.2.1,a.2.2.2.2.2.2.2.1,r12.2,a.2.2.2.2.2.2.2.2.2.2)) (0,a.2.2.2.2.2.2.2.2.2.1)).bind fun e14=>
 Sum.elim (fun e15=>K ((false,([],[])),r12.2))
 (fun e16=>K ((a.2.2.1,(e16,a.2.2.2.2.2.2.2.2.2.2)),r12.2)) e14))
 ((loopAll (f52v1_l8.m (a.1.2.2.1,a.1.2.2.2.1,a.2.2.1,false,r13,a.2.2.2.1,a.2.2.2.2.1,a.2.2.2.2.2.1,a.2.2.2.2.2.2.1,a.2.2.2.2.2.2.2.1,r12.2,a.2.2.2.2.2.2.2.2.2.2)) (0,a.2.2.2.2.2.2.2.2.2.1)).bind fun e17=>
 Sum.elim (fun e18=>K ((false,([],[])),r12.2))
 (fun e19=>K ((a.2.2.1,(e19,a.2.2.2.2.2.2.2.2.2.2)),r12.2)) e17))
def f52v1_m (a:TInstr×Int×Bool×TGraph×Bool×(List TCongr)×(List TCongr)×(List (Int×TInstr))×(List (Int×TCongr))×(List TCongr)×(List TCongr)):Option (TMods×(List (Int×TCongr))):=f52v1_c a some
def f52v1_sp:Spec:=f52v1_s.sp f52v1_m
noncomputable def f52v1_e:Env:=⟨fun k=>[].contains k,callsL [(100,f100_sp),(47,f47v1_sp),(101,f101_sp),(102,f102_sp)],fun X k s K=>if k=8 then f52v1_l8.q X s K else none⟩
noncomputable def f52v1_l8_c:Code:=subAt [1,1,1,1,1,0,1,0,0] (bodyOf Tryz.f52)
theorem f52v1_l8_ok (hc:SimCall C f52v1_e.call):LoopSim f52v1_e.loop (vc par C true [5,7,8,10,11,1000025,1000029] 81) (.loop f52v1_l8_c):=
 lO hc f52v1_l8 (by intros;simp only [f52v1_l8,LD.m,nn])
theorem f52v1_ok:OK (166020696663385964545) 52 (f52v1_s.sp f52v1_m):=
 fO (d:=166020696663385964544) (env:=f52v1_e) (callsL_sim (cc f100_ok (cc f47v1_ok (cc f101_ok (cc f102_ok cn))))) (fn:=Tryz.f52) (mc:=@f52v1_c) (by intros;simp only [f52v1_m,f52v1_c,nn]) (locs:=[5,7,8,10,11,1000025,1000029]) (sh:=(.kill [6,7] (.agg [.any,(.lit cCongr),(.lit cCongr)]))) (fz:=true) (hl:=fun hc=>(lp_of (by kernel_rfl) (lp_cons (f52v1_l8_ok hc) lp_nil)))
def f16v1_s:FS (TGraph×Bool×Int×Int×(List TCongr)×(List TCongr)) (TMods) where
 sk:=⟨(.cons (.agg kG) (.cons (.agg (.cons .bool (.cons (.all 0) (.cons (.all 1) .nil)))) kI)),[.cells cCongr,.cells cCongr],0⟩
 a:=fun u=>((q8 u.1.1),u.1.2.1.1,u.1.2.2.1,u.1.2.2.2.1,u.2.1,u.2.2.1)
 n:=fun a=>(((w8 a.1),((a.2.1,((),((),()))),(a.2.2.1,(a.2.2.2.1,())))),(a.2.2.2.2.1,(a.2.2.2.2.2,())))
 o:=fun Z a r K=>K (.agg [.bool r.1,.lit cCongr r.2.1,.lit cCongr r.2.2]) ⟨[.cells cCongr a.2.2.2.2.1,.cells cCongr a.2.2.2.2.2],0⟩
def f16v1_r1:PD (Int×Int×TGraph×Bool×Bool×((List TCongr)×(List TCongr))) (Bool) where
 sk:=⟨[(2,.v (.int .i64)),(3,.v (.int .i64)),(4,.loc 0 0),(5,.loc 1 0),(8,.loc 2 0)],[kG,(.cons .bool (.cons (.all 0) (.cons (.all 1) .nil))),(.cons .bool (.cons .nils (.cons .nils .nil)))],[.cells cCongr,.cells cCongr],0,2⟩
 p:=fun u=>(u.1.1,u.1.2.1,(q8 u.2.1.1),u.2.1.2.1.1,u.2.1.2.2.1.1,(u.2.2.1,u.2.2.2.1))
 n:=fun p=>((p.1,(p.2.1,())),(((w8 p.2.2.1),((p.2.2.2.1,((),((),()))),((p.2.2.2.2.1,((),((),()))),()))),(p.2.2.2.2.2.1,(p.2.2.2.2.2.2,()))))
 st:=fun Y p ke=>cond (!p.2.2.2.1)
  (ke (true))
  (cond (decide (p.2.1<(0:Int)))
  (ke (true))
  (cond (decide ((1:Int)<p.2.1))
  (ke (true))
  (ask (V.inRange p.1 (List.length p.2.2.1.1)) (cond (decide (p.2.1=(0:Int)))
  (ke ((decide ((gx p.2.2.1.1 (Int.toNat p.1) dInstr).2.2.2.2.2.2.1=(-1:Int)))))
  (cond (decide (p.2.1=(1:Int)))
  (ke ((decide ((gx p.2.2.1.1 (Int.toNat p.1) dInstr).2.2.2.2.2.2.2=(-1:Int)))))
  (none))))))
 o:=fun Z p e K=>K .normal ⟨[(2,.v (.int .i64 p.1)),(3,.v (.int .i64 p.2.1)),(4,.loc 0 0),(5,.loc 1 0),(8,.loc 2 0),(35,.v (.bool e))],[[.lit cInstr p.2.2.1.1,.int .i64 p.2.2.1.2.1,.int .i64 p.2.2.1.2.2.1,.int .i64 p.2.2.1.2.2.2.1,.lit cArray p.2.2.1.2.2.2.2.1,.lit cScalar p.2.2.1.2.2.2.2.2.1,.lit cArray p.2.2.1.2.2.2.2.2.2.1,.lit cItv p.2.2.1.2.2.2.2.2.2.2],[.bool p.2.2.2.1,.all 0,.all 1],[.bool p.2.2.2.2.1,.nils,.nils]],⟨[.cells cCongr p.2.2.2.2.2.1,.cells cCongr p.2.2.2.2.2.2],0⟩,2⟩
 pol:=⟨[2,3,4,5,8],[],[],[]⟩
 pe:=[(.normal,⟨[2,3,4,5,8,35],[],[],[]⟩)]
def f16v1_r4:PD (Int×TGraph×Bool×TInstr×Bool×((List TCongr)×(List TCongr))×TGraph×Bool×((List (Int×TInstr))×(List (Int×TCongr)))×((List TCongr)×(List TCongr))) (Bool) where
 sk:=⟨[(3,.v (.int .i64)),(4,.loc 0 0),(8,.loc 1 0),(9,.v (.ptr 2 0)),(10,.loc 2 0),(11,.loc 3 0)],[kG,(.cons .bool (.cons .nils (.cons .nils .nil))),kN,(.cons .bool (.cons (.all 6) (.cons (.all 7) .nil)))],[.cells cCongr,.cells cCongr,.opn (.cons (.lit cInstr) (.cons (.int .i64) (.cons (.int .i64) (.cons (.int .i64) (.cons (.lit cArray) (.cons (.lit cScalar) (.cons (.lit cArray) (.cons (.lit cItv) (.cons .bool (.cons (.all 0) (.cons (.all 1) (.cons (.mp 3) (.cons (.mp 4) (.cons (.mp 5) .nil)))))))))))))),.mapT (.int .i64) true cInstr,.mapT (.int .i64) true cCongr,.mapL (.int .i64) [((2:Int),(.fn 85 .nil)),((3:Int),(.fn 87 .nil)),((4:Int),(.fn 89 .nil)),((5:Int),(.fn 90 .nil)),((6:Int),(.fn 91 .nil)),((7:Int),(.fn 92 .nil)),((8:Int),(.fn 93 .nil)),((9:Int),(.fn 83 .nil)),((10:Int),(.fn 83 .nil))],.cells cCongr,.cells cCongr],0,2⟩
 p:=fun u=>(u.1.1,(q8 u.2.1.1),u.2.1.2.1.1,(q8 u.2.1.2.2.1),u.2.1.2.2.2.1.1,(u.2.2.1,u.2.2.2.1),(q8 u.2.2.2.2.1),u.2.2.2.2.1.2.2.2.2.2.2.2.2.1,(u.2.2.2.2.2.1,u.2.2.2.2.2.2.1),(u.2.2.2.2.2.2.2.2.1,u.2.2.2.2.2.2.2.2.2.1))
 n:=fun p=>((p.1,((),())),(((w8 p.2.1),((p.2.2.1,((),((),()))),((w8 p.2.2.2.1),((p.2.2.2.2.1,((),((),()))),())))),(p.2.2.2.2.2.1.1,(p.2.2.2.2.2.1.2,((p.2.2.2.2.2.2.1.1,(p.2.2.2.2.2.2.1.2.1,(p.2.2.2.2.2.2.1.2.2.1,(p.2.2.2.2.2.2.1.2.2.2.1,(p.2.2.2.2.2.2.1.2.2.2.2.1,(p.2.2.2.2.2.2.1.2.2.2.2.2.1,(p.2.2.2.2.2.2.1.2.2.2.2.2.2.1,(p.2.2.2.2.2.2.1.2.2.2.2.2.2.2,(p.2.2.2.2.2.2.2.1,((),((),((),((),((),())))))))))))))),(p.2.2.2.2.2.2.2.2.1.1,(p.2.2.2.2.2.2.2.2.1.2,(((),((),((),((),((),((),((),((),((),()))))))))),(p.2.2.2.2.2.2.2.2.2.1,(p.2.2.2.2.2.2.2.2.2.2,()))))))))))
 st:=fun Y p ke=>cond (decide ((2:Int)<=p.2.2.2.1.1))
  (ke ((decide (p.2.2.2.1.1<=(8:Int)))))
  (ke (false))
 o:=fun Z p e K=>K .normal ⟨[(3,.v (.int .i64 p.1)),(4,.loc 0 0),(8,.loc 1 0),(9,.v (.ptr 2 0)),(10,.loc 2 0),(11,.loc 3 0),(47,.v (.bool e))],[[.lit cInstr p.2.1.1,.int .i64 p.2.1.2.1,.int .i64 p.2.1.2.2.1,.int .i64 p.2.1.2.2.2.1,.lit cArray p.2.1.2.2.2.2.1,.lit cScalar p.2.1.2.2.2.2.2.1,.lit cArray p.2.1.2.2.2.2.2.2.1,.lit cItv p.2.1.2.2.2.2.2.2.2],[.bool p.2.2.1,.nils,.nils],[.int .i64 p.2.2.2.1.1,.int .i64 p.2.2.2.1.2.1,.int .i64 p.2.2.2.1.2.2.1,.int .i64 p.2.2.2.1.2.2.2.1,.int .i64 p.2.2.2.1.2.2.2.2.1,.int .i64 p.2.2.2.1.2.2.2.2.2.1,.int .i64 p.2.2.2.1.2.2.2.2.2.2.1,.int .i64 p.2.2.2.1.2.2.2.2.2.2.2],[.bool p.2.2.2.2.1,.all 6,.all 7]],⟨[.cells cCongr p.2.2.2.2.2.1.1,.cells cCongr p.2.2.2.2.2.1.2,.opn [.lit cInstr p.2.2.2.2.2.2.1.1,.int .i64 p.2.2.2.2.2.2.1.2.1,.int .i64 p.2.2.2.2.2.2.1.2.2.1,.int .i64 p.2.2.2.2.2.2.1.2.2.2.1,.lit cArray p.2.2.2.2.2.2.1.2.2.2.2.1,.lit cScalar p.2.2.2.2.2.2.1.2.2.2.2.2.1,.lit cArray p.2.2.2.2.2.2.1.2.2.2.2.2.2.1,.lit cItv p.2.2.2.2.2.2.1.2.2.2.2.2.2.2,.bool p.2.2.2.2.2.2.2.1,.all 0,.all 1,.mp 3,.mp 4,.mp 5],.mapT (.int .i64) true cInstr p.2.2.2.2.2.2.2.2.1.1,.mapT (.int .i64) true cCongr p.2.2.2.2.2.2.2.2.1.2,.mapL (.int .i64) [((2:Int),.fn 85 []),((3:Int),.fn 87 []),((4:Int),.fn 89 []),((5:Int),.fn 90 []),((6:Int),.fn 91 []),((7:Int),.fn 92 []),((8:Int),.fn 93 []),((9:Int),.fn 83 []),((10:Int),.fn 83 [])],.cells cCongr p.2.2.2.2.2.2.2.2.2.1,.cells cCongr p.2.2.2.2.2.2.2.2.2.2],0⟩,2⟩
 pol:=⟨[3,4,8,9,10,11],[],[],[]⟩
 pe:=[(.normal,⟨[3,4,8,9,10,11,47],[],[],[]⟩)]
def f16v1_c17:PD (Bool×Bool×TInstr×Bool×TCongr×((List TCongr)×(List TCongr))×((List TCongr)×(List TCongr))) (Bool×Int×Int) where
 sk:=⟨[(8,.loc 0 0),(10,.loc 1 0),(11,.loc 2 0),(13,.loc 3 0),(113,.v .bool)],[(.cons .bool (.cons .nils (.cons .nils .nil))),kN,(.cons .bool (.cons (.all 2) (.cons (.all 3) .nil))),kC],[.cells cCongr,.cells cCongr,.cells cCongr,.cells cCongr],0,2⟩
 p:=fun u=>(u.1.1,u.2.1.1.1,(q8 u.2.1.2.1),u.2.1.2.2.1.1,(q3 u.2.1.2.2.2.1),(u.2.2.1,u.2.2.2.1),(u.2.2.2.2.1,u.2.2.2.2.2.1))
 n:=fun p=>((p.1,()),(((p.2.1,((),((),()))),((w8 p.2.2.1),((p.2.2.2.1,((),((),()))),((w3 p.2.2.2.2.1),())))),(p.2.2.2.2.2.1.1,(p.2.2.2.2.2.1.2,(p.2.2.2.2.2.2.1,(p.2.2.2.2.2.2.2,()))))))
 st:=fun Y p ke=>cond p.1
  (ask (V.inRange p.2.2.1.2.2.1 (List.length p.2.2.2.2.2.2.2)) ((f51_m ((gx p.2.2.2.2.2.2.2 (Int.toNat p.2.2.1.2.2.1) dCongr),p.2.2.2.2.1)).bind fun r1=>
  ke ((r1.1,r1.2.1,r1.2.2))))
  (ke ((p.2.2.2.2.1.1,p.2.2.2.2.1.2.1,p.2.2.2.2.1.2.2)))
 o:=fun Z p e K=>K .normal ⟨[(8,.loc 0 0),(10,.loc 1 0),(11,.loc 2 0),(13,.loc 3 0)],[[.bool p.2.1,.nils,.nils],[.int .i64 p.2.2.1.1,.int .i64 p.2.2.1.2.1,.int .i64 p.2.2.1.2.2.1,.int .i64 p.2.2.1.2.2.2.1,.int .i64 p.2.2.1.2.2.2.2.1,.int .i64 p.2.2.1.2.2.2.2.2.1,.int .i64 p.2.2.1.2.2.2.2.2.2.1,.int .i64 p.2.2.1.2.2.2.2.2.2.2],[.bool p.2.2.2.1,.all 2,.all 3],[.bool e.1,.int .i64 e.2.1,.int .i64 e.2.2]],⟨[.cells cCongr p.2.2.2.2.2.1.1,.cells cCongr p.2.2.2.2.2.1.2,.cells cCongr p.2.2.2.2.2.2.1,.cells cCongr p.2.2.2.2.2.2.2],0⟩,2⟩
 pol:=⟨[8,10,11,13,113],[],[],[]⟩
 pe:=[(.normal,⟨[8,10,11,13],[],[],[]⟩)]
def f16v1_c13:PD (Int×Bool×(TGraph×(Bool×(TInstr×(Bool×(((List TCongr)×(List TCongr))×(TGraph×(Bool×(((List (Int×TInstr))×(List (Int×TCongr)))×((List TCongr)×(List TCongr))))))))))) ((Bool×(List TCongr)×(List TCongr)) ⊕ ((List TCongr))) where
 sk:=⟨[(3,.v (.int .i64)),(4,.loc 0 0),(8,.loc 1 0),(9,.v (.ptr 2 0)),(10,.loc 2 0),(11,.loc 3 0),(87,.v .bool)],[kG,(.cons .bool (.cons .nils (.cons .nils .nil))),kN,(.cons .bool (.cons (.all 6) (.cons (.all 7) .nil)))],[.cells cCongr,.cells cCongr,.opn (.cons (.lit cInstr) (.cons (.int .i64) (.cons (.int .i64) (.cons (.int .i64) (.cons (.lit cArray) (.cons (.lit cScalar) (.cons (.lit cArray) (.cons (.lit cItv) (.cons .bool (.cons (.all 0) (.cons (.all 1) (.cons (.mp 3) (.cons (.mp 4) (.cons (.mp 5) .nil)))))))))))))),.mapT (.int .i64) true cInstr,.mapT (.int .i64) true cCongr,.mapL (.int .i64) [((2:Int),(.fn 85 .nil)),((3:Int),(.fn 87 .nil)),((4:Int),(.fn 89 .nil)),((5:Int),(.fn 90 .nil)),((6:Int),(.fn 91 .nil)),((7:Int),(.fn 92 .nil)),((8:Int),(.fn 93 .nil)),((9:Int),(.fn 83 .nil)),((10:Int),(.fn 83 .nil))],.cells cCongr,.cells cCongr],0,2⟩
 p:=fun u=>(u.1.1,u.1.2.2.1,((q8 u.2.1.1),(u.2.1.2.1.1,((q8 u.2.1.2.2.1),(u.2.1.2.2.2.1.1,((u.2.2.1,u.2.2.2.1),((q8 u.2.2.2.2.1),(u.2.2.2.2.1.2.2.2.2.2.2.2.2.1,((u.2.2.2.2.2.1,u.2.2.2.2.2.2.1),(u.2.2.2.2.2.2.2.2.1,u.2.2.2.2.2.2.2.2.2.1))))))))))
 n:=fun p=>((p.1,((),(p.2.1,()))),(((w8 p.2.2.1),((p.2.2.2.1,((),((),()))),((w8 p.2.2.2.2.1),((p.2.2.2.2.2.1,((),((),()))),())))),(p.2.2.2.2.2.2.1.1,(p.2.2.2.2.2.2.1.2,((p.2.2.2.2.2.2.2.1.1,(p.2.2.2.2.2.2.2.1.2.1,(p.2.2.2.2.2.2.2.1.2.2.1,(p.2.2.2.2.2.2.2.1.2.2.2.1,(p.2.2.2.2.2.2.2.1.2.2.2.2.1,(p.2.2.2.2.2.2.2.1.2.2.2.2.2.1,(p.2.2.2.2.2.2.2.1.2.2.2.2.2.2.1,(p.2.2.2.2.2.2.2.1.2.2.2.2.2.2.2,(p.2.2.2.2.2.2.2.2.1,((),((),((),((),((),())))))))))))))),(p.2.2.2.2.2.2.2.2.2.1.1,(p.2.2.2.2.2.2.2.2.2.1.2,(((),((),((),((),((),((),((),((),((),()))))))))),(p.2.2.2.2.2.2.2.2.2.2.1,(p.2.2.2.2.2.2.2.2.2.2.2,()))))))))))
 st:=fun Y p ke=>cond p.2.1
  ((Rec47v1.m (p.2.2.2.2.1.2.1,p.2.2.2.2.2.2.2.1,p.2.2.2.2.2.2.2.2.1,p.2.2.2.2.2.2.1.1,p.2.2.2.2.2.2.1.2,p.2.2.2.2.2.2.2.2.2.1.1,p.2.2.2.2.2.2.2.2.2.1.2)).bind fun r1=>
  ask (V.inRange p.2.2.2.2.1.2.2.1 (List.length p.2.2.1.2.2.2.2.2.2.1)) ((f50_m (r1.1,(gx p.2.2.1.2.2.2.2.2.2.1 (Int.toNat p.2.2.2.2.1.2.2.1) dArray).2.1)).bind fun r2=>
  cond r2.1
  (ke (.inl (false,[],[])))
  (ask (V.inRange p.2.2.2.2.1.2.2.1 (List.length p.2.2.1.2.2.2.2.2.2.1)) ((f16v1_c17.m ((decide ((1:Int)<(gx p.2.2.1.2.2.2.2.2.2.1 (Int.toNat p.2.2.2.2.1.2.2.1) dArray).2.2.1)),p.2.2.2.1,p.2.2.2.2.1,p.2.2.2.2.2.1,r2,p.2.2.2.2.2.2.1,p.2.2.2.2.2.2.2.2.2.2)).bind fun e3=>
  ask (V.inRange p.2.2.2.2.1.2.2.1 (List.length p.2.2.2.2.2.2.2.2.2.2.2)) (ke (.inr ((List.set p.2.2.2.2.2.2.2.2.2.2.2 (Int.toNat p.2.2.2.2.1.2.2.1) e3))))))))
  (cond (decide (p.2.2.2.2.1.1=(15:Int)))
  ((f52v1_m (p.2.2.2.2.1,p.1,p.2.2.2.2.2.1,p.2.2.2.2.2.2.2.1,p.2.2.2.2.2.2.2.2.1,p.2.2.2.2.2.2.1.1,p.2.2.2.2.2.2.1.2,p.2.2.2.2.2.2.2.2.2.1.1,p.2.2.2.2.2.2.2.2.2.1.2,p.2.2.2.2.2.2.2.2.2.2.1,p.2.2.2.2.2.2.2.2.2.2.2)).bind fun r4=>
  ke (.inl (r4.1.1,r4.1.2.1,r4.1.2.2)))
  (ke (.inr (p.2.2.2.2.2.2.2.2.2.2.2))))
 o:=fun Z p e K=>Sum.elim (fun e=>K .ret ⟨[(8,.loc 0 0)],[[.bool e.1,.lit cCongr e.2.1,.lit cCongr e.2.2]],⟨[.cells cCongr p.2.2.2.2.2.2.1.1,.cells cCongr p.2.2.2.2.2.2.1.2],0⟩,2⟩) (fun e=>K .normal ⟨[(8,.loc 0 0),(11,.loc 1 0)],[[.bool p.2.2.2.1,.nils,.nils],[.bool p.2.2.2.2.2.1,.all 2,.all 3]],⟨[.cells cCongr p.2.2.2.2.2.2.1.1,.cells cCongr p.2.2.2.2.2.2.1.2,.cells cCongr p.2.2.2.2.2.2.2.2.2.2.1,.cells cCongr e],0⟩,2⟩) e
 pol:=⟨[3,4,8,9,10,11,87],[],[],[]⟩
 pe:=[(.ret,⟨[8],[],[(0,[.any,(.lit cCongr),(.lit cCongr)])],[]⟩),(.normal,⟨[8,11],[],[],[]⟩)]
def f16v1_c8:PD (Int×Bool×(TGraph×(Bool×(TInstr×(Bool×(((List TCongr)×(List TCongr))×(TGraph×(Bool×(((List (Int×TInstr))×(List (Int×TCongr)))×((List TCongr)×(List TCongr))))))))))) ((Bool×(List TCongr)×(List TCongr)) ⊕ ((List TCongr)×(List TCongr))) where
 sk:=⟨[(3,.v (.int .i64)),(4,.loc 0 0),(8,.loc 1 0),(9,.v (.ptr 2 0)),(10,.loc 2 0),(11,.loc 3 0),(62,.v .bool)],[kG,(.cons .bool (.cons .nils (.cons .nils .nil))),kN,(.cons .bool (.cons (.all 6) (.cons (.all 7) .nil)))],[.cells cCongr,.cells cCongr,.opn (.cons (.lit cInstr) (.cons (.int .i64) (.cons (.int .i64) (.cons (.int .i64) (.cons (.lit cArray) (.cons (.lit cScalar) (.cons (.lit cArray) (.cons (.lit cItv) (.cons .bool (.cons (.all 0) (.cons (.all 1) (.cons (.mp 3) (.cons (.mp 4) (.cons (.mp 5) .nil)))))))))))))),.mapT (.int .i64) true cInstr,.mapT (.int .i64) true cCongr,.mapL (.int .i64) [((2:Int),(.fn 85 .nil)),((3:Int),(.fn 87 .nil)),((4:Int),(.fn 89 .nil)),((5:Int),(.fn 90 .nil)),((6:Int),(.fn 91 .nil)),((7:Int),(.fn 92 .nil)),((8:Int),(.fn 93 .nil)),((9:Int),(.fn 83 .nil)),((10:Int),(.fn 83 .nil))],.cells cCongr,.cells cCongr],0,2⟩
 p:=fun u=>(u.1.1,u.1.2.2.1,((q8 u.2.1.1),(u.2.1.2.1.1,((q8 u.2.1.2.2.1),(u.2.1.2.2.2.1.1,((u.2.2.1,u.2.2.2.1),((q8 u.2.2.2.2.1),(u.2.2.2.2.1.2.2.2.2.2.2.2.2.1,((u.2.2.2.2.2.1,u.2.2.2.2.2.2.1),(u.2.2.2.2.2.2.2.2.1,u.2.2.2.2.2.2.2.2.2.1))))))))))
 n:=fun p=>((p.1,((),(p.2.1,()))),(((w8 p.2.2.1),((p.2.2.2.1,((),((),()))),((w8 p.2.2.2.2.1),((p.2.2.2.2.2.1,((),((),()))),())))),(p.2.2.2.2.2.2.1.1,(p.2.2.2.2.2.2.1.2,((p.2.2.2.2.2.2.2.1.1,(p.2.2.2.2.2.2.2.1.2.1,(p.2.2.2.2.2.2.2.1.2.2.1,(p.2.2.2.2.2.2.2.1.2.2.2.1,(p.2.2.2.2.2.2.2.1.2.2.2.2.1,(p.2.2.2.2.2.2.2.1.2.2.2.2.2.1,(p.2.2.2.2.2.2.2.1.2.2.2.2.2.2.1,(p.2.2.2.2.2.2.2.1.2.2.2.2.2.2.2,(p.2.2.2.2.2.2.2.2.1,((),((),((),((),((),())))))))))))))),(p.2.2.2.2.2.2.2.2.2.1.1,(p.2.2.2.2.2.2.2.2.2.1.2,(((),((),((),((),((),((),((),((),((),()))))))))),(p.2.2.2.2.2.2.2.2.2.2.1,(p.2.2.2.2.2.2.2.2.2.2.2,()))))))))))
 st:=fun Y p ke=>cond p.2.1
  ((Rec47v1.m (p.2.2.2.2.1.2.2.1,p.2.2.2.2.2.2.2.1,p.2.2.2.2.2.2.2.2.1,p.2.2.2.2.2.2.1.1,p.2.2.2.2.2.2.1.2,p.2.2.2.2.2.2.2.2.2.1.1,p.2.2.2.2.2.2.2.2.2.1.2)).bind fun r1=>
  ask (V.inRange p.2.2.2.2.1.2.1 (List.length p.2.2.1.2.2.2.2.2.1)) ((f50_m (r1.1,(gx p.2.2.1.2.2.2.2.2.1 (Int.toNat p.2.2.2.2.1.2.1) dScalar).2.1)).bind fun r2=>
  cond r2.1
  (ke (.inl (false,[],[])))
  (ask (V.inRange p.2.2.2.2.1.2.1 (List.length p.2.2.2.2.2.2.2.2.2.2.1)) (ke (.inr (((List.set p.2.2.2.2.2.2.2.2.2.2.1 (Int.toNat p.2.2.2.2.1.2.1) r2),p.2.2.2.2.2.2.2.2.2.2.2)))))))
  ((f16v1_c13.m (p.1,(decide (p.2.2.2.2.1.1=(14:Int))),p.2.2)).bind fun e3=>
  Sum.elim (fun e4=>ke (.inl (e4.1,e4.2.1,e4.2.2)))
  (fun e5=>ke (.inr ((p.2.2.2.2.2.2.2.2.2.2.1,e5)))) e3)
 o:=fun Z p e K=>Sum.elim (fun e=>K .ret ⟨[(8,.loc 0 0)],[[.bool e.1,.lit cCongr e.2.1,.lit cCongr e.2.2]],⟨[.cells cCongr p.2.2.2.2.2.2.1.1,.cells cCongr p.2.2.2.2.2.2.1.2],0⟩,2⟩) (fun e=>K .normal ⟨[(8,.loc 0 0),(11,.loc 1 0)],[[.bool p.2.2.2.1,.nils,.nils],[.bool p.2.2.2.2.2.1,.all 2,.all 3]],⟨[.cells cCongr p.2.2.2.2.2.2.1.1,.cells cCongr p.2.2.2.2.2.2.1.2,.cells cCongr e.1,.cells cCongr e.2],0⟩,2⟩) e
 pol:=⟨[3,4,8,9,10,11,62],[],[],[]⟩
 pe:=[(.ret,⟨[8],[],[(0,[.any,(.lit cCongr),(.lit cCongr)])],[]⟩),(.normal,⟨[8,11],[],[],[]⟩)]
def f16v1_c5:PD (Int×Bool×TGraph×Bool×TInstr×Bool×((List TCongr)×(List TCongr))×TGraph×Bool×((List (Int×TInstr))×(List (Int×TCongr)))×((List TCongr)×(List TCongr))) ((Bool×(List TCongr)×(List TCongr)) ⊕ ((List TCongr)×(List TCongr))) where
 sk:=⟨[(3,.v (.int .i64)),(4,.loc 0 0),(8,.loc 1 0),(9,.v (.ptr 2 0)),(10,.loc 2 0),(11,.loc 3 0),(47,.v .bool)],[kG,(.cons .bool (.cons .nils (.cons .nils .nil))),kN,(.cons .bool (.cons (.all 6) (.cons (.all 7) .nil)))],[.cells cCongr,.cells cCongr,.opn (.cons (.lit cInstr) (.cons (.int .i64) (.cons (.int .i64) (.cons (.int .i64) (.cons (.lit cArray) (.cons (.lit cScalar) (.cons (.lit cArray) (.cons (.lit cItv) (.cons .bool (.cons (.all 0) (.cons (.all 1) (.cons (.mp 3) (.cons (.mp 4) (.cons (.mp 5) .nil)))))))))))))),.mapT (.int .i64) true cInstr,.mapT (.int .i64) true cCongr,.mapL (.int .i64) [((2:Int),(.fn 85 .nil)),((3:Int),(.fn 87 .nil)),((4:Int),(.fn 89 .nil)),((5:Int),(.fn 90 .nil)),((6:Int),(.fn 91 .nil)),((7:Int),(.fn 92 .nil)),((8:Int),(.fn 93 .nil)),((9:Int),(.fn 83 .nil)),((10:Int),(.fn 83 .nil))],.cells cCongr,.cells cCongr],0,2⟩
 p:=fun u=>(u.1.1,u.1.2.2.1,(q8 u.2.1.1),u.2.1.2.1.1,(q8 u.2.1.2.2.1),u.2.1.2.2.2.1.1,(u.2.2.1,u.2.2.2.1),(q8 u.2.2.2.2.1),u.2.2.2.2.1.2.2.2.2.2.2.2.2.1,(u.2.2.2.2.2.1,u.2.2.2.2.2.2.1),(u.2.2.2.2.2.2.2.2.1,u.2.2.2.2.2.2.2.2.2.1))
 n:=fun p=>((p.1,((),(p.2.1,()))),(((w8 p.2.2.1),((p.2.2.2.1,((),((),()))),((w8 p.2.2.2.2.1),((p.2.2.2.2.2.1,((),((),()))),())))),(p.2.2.2.2.2.2.1.1,(p.2.2.2.2.2.2.1.2,((p.2.2.2.2.2.2.2.1.1,(p.2.2.2.2.2.2.2.1.2.1,(p.2.2.2.2.2.2.2.1.2.2.1,(p.2.2.2.2.2.2.2.1.2.2.2.1,(p.2.2.2.2.2.2.2.1.2.2.2.2.1,(p.2.2.2.2.2.2.2.1.2.2.2.2.2.1,(p.2.2.2.2.2.2.2.1.2.2.2.2.2.2.1,(p.2.2.2.2.2.2.2.1.2.2.2.2.2.2.2,(p.2.2.2.2.2.2.2.2.1,((),((),((),((),((),())))))))))))))),(p.2.2.2.2.2.2.2.2.2.1.1,(p.2.2.2.2.2.2.2.2.2.1.2,(((),((),((),((),((),((),((),((),((),()))))))))),(p.2.2.2.2.2.2.2.2.2.2.1,(p.2.2.2.2.2.2.2.2.2.2.2,()))))))))))
 st:=fun Y p ke=>cond p.2.1
  ((Rec47v1.m (p.2.2.2.2.1.2.1,p.2.2.2.2.2.2.2.1,p.2.2.2.2.2.2.2.2.1,p.2.2.2.2.2.2.1.1,p.2.2.2.2.2.2.1.2,p.2.2.2.2.2.2.2.2.2.1.1,p.2.2.2.2.2.2.2.2.2.1.2)).bind fun r1=>
  cond r1.1.1
  (ke (.inl (false,[],[])))
  (ke (.inr ((p.2.2.2.2.2.2.2.2.2.2.1,p.2.2.2.2.2.2.2.2.2.2.2)))))
  ((f16v1_c8.m (p.1,(decide (p.2.2.2.2.1.1=(13:Int))),p.2.2)).bind fun e2=>
  Sum.elim (fun e3=>ke (.inl (e3.1,e3.2.1,e3.2.2)))
  (fun e4=>ke (.inr ((e4.1,e4.2)))) e2)
 o:=fun Z p e K=>Sum.elim (fun e=>K .ret ⟨[(8,.loc 0 0)],[[.bool e.1,.lit cCongr e.2.1,.lit cCongr e.2.2]],⟨[.cells cCongr p.2.2.2.2.2.2.1.1,.cells cCongr p.2.2.2.2.2.2.1.2],0⟩,2⟩) (fun e=>K .normal ⟨[(8,.loc 0 0),(11,.loc 1 0)],[[.bool p.2.2.2.1,.nils,.nils],[.bool p.2.2.2.2.2.1,.all 2,.all 3]],⟨[.cells cCongr p.2.2.2.2.2.2.1.1,.cells cCongr p.2.2.2.2.2.2.1.2,.cells cCongr e.1,.cells cCongr e.2],0⟩,2⟩) e
 pol:=⟨[3,4,8,9,10,11,47],[],[],[]⟩
 pe:=[(.ret,⟨[8],[],[(0,[.any,(.lit cCongr),(.lit cCongr)])],[]⟩),(.normal,⟨[8,11],[],[],[]⟩)]
def f16v1_c {X:Type} (a:TGraph×Bool×Int×Int×(List TCongr)×(List TCongr)) (K:TMods->Option X):Option X:=
 (f16v1_r1.m (a.2.2.1,a.2.2.2.1,a.1,a.2.1,false,a.2.2.2.2)).bind fun e1=>
 cond e1
 (K (false,([],[])))
 ((f46v1_m (a.1,a.2.1,a.2.2.2.2.1,a.2.2.2.2.2)).bind fun r2=>
 ask (V.inRange a.2.2.1 (List.length a.1.1)) ((f49v1_m (a.2.1,a.2.2.2.2.1,a.2.2.2.2.2)).bind fun r3=>
 (f16v1_r4.m (a.2.2.2.1,a.1,false,(gx a.1.1 (Int.toNat a.2.2.1) dInstr),a.2.1,a.2.2.2.2,a.1,a.2.1,r2,a.2.2.2.2)).bind fun e4=>
 (f16v1_c5.m (a.2.2.2.1,e4,a.1,false,(gx a.1.1 (Int.toNat a.2.2.1) dInstr),a.2.1,a.2.2.2.2,a.1,a.2.1,r2,a.2.2.2.2)).bind fun e5=>
 Sum.elim (fun e6=>K e6)
 (fun e7=>K (a.2.1,e7)) e5))
def f16v1_m (a:TGraph×Bool×Int×Int×(List TCongr)×(List TCongr)):Option (TMods):=f16v1_c a some
def f16v1_sp:Spec:=f16v1_s.sp f16v1_m
noncomputable def f16v1_e:Env:=⟨fun k=>[1000005,1000008,1000013,1000017,2000001,2000004].contains k,callsL [(46,f46v1_sp),(49,f49v1_sp),(47,f47v1_sp),(50,f50_sp),(51,f51_sp),(52,f52v1_sp)],fun X k s K=>if k=2000001 then f16v1_r1.q X s K else if k=2000004 then f16v1_r4.q X s K else if k=1000017 then f16v1_c17.q X s K else if k=1000013 then f16v1_c13.q X s K else if k=1000008 then f16v1_c8.q X s K else if k=1000005 then f16v1_c5.q X s K else none⟩
noncomputable def f16v1_r1_c:Code:=subAt [1,0,0] (bodyOf Tryz.f16)
theorem f16v1_r1_ok (hc:SimCall C f16v1_e.call):LoopSim f16v1_e.loop (vc par C true [4,5,8,10,11,12,13,1000059,1000069,1000094] 138) f16v1_r1_c:=
 pO (env0:=⟨offJ f16v1_e.join 2000001,f16v1_e.call,f16v1_e.loop⟩) hc rfl f16v1_r1 (by intros;simp only [f16v1_r1,PD.m,nn])
noncomputable def f16v1_r4_c:Code:=subAt [1,1,1,0,0,0] (bodyOf Tryz.f16)
theorem f16v1_r4_ok (hc:SimCall C f16v1_e.call):LoopSim f16v1_e.loop (vc par C true [4,5,8,10,11,12,13,1000059,1000069,1000094] 138) f16v1_r4_c:=
 pO (env0:=⟨offJ f16v1_e.join 2000004,f16v1_e.call,f16v1_e.loop⟩) hc rfl f16v1_r4 (by intros;simp only [f16v1_r4,PD.m,nn])
noncomputable def f16v1_c17_c:Code:=subAt [1,1,1,0,0,1,1,1,1,1,0,1,1,0,1] (bodyOf Tryz.f16)
theorem f16v1_c17_ok (hc:SimCall C f16v1_e.call):LoopSim f16v1_e.loop (vc par C true [4,5,8,10,11,12,13,1000059,1000069,1000094] 138) f16v1_c17_c:=
 pO (env0:=⟨offJ f16v1_e.join 1000017,f16v1_e.call,f16v1_e.loop⟩) hc rfl f16v1_c17 (by intros;simp only [f16v1_c17,PD.m,nn])
noncomputable def f16v1_c13_c:Code:=subAt [1,1,1,0,0,1,1,1,1,1] (bodyOf Tryz.f16)
theorem f16v1_c13_ok (hc:SimCall C f16v1_e.call):LoopSim f16v1_e.loop (vc par C true [4,5,8,10,11,12,13,1000059,1000069,1000094] 138) f16v1_c13_c:=
 pO (env0:=⟨offJ f16v1_e.join 1000013,f16v1_e.call,f16v1_e.loop⟩) hc rfl f16v1_c13 (by intros;simp only [f16v1_c13,PD.m,nn]) (hl:=(lp_of (by kernel_rfl) (lp_cons (f16v1_c17_ok hc) lp_nil)))
noncomputable def f16v1_c8_c:Code:=subAt [1,1,1,0,0,1,1,1] (bodyOf Tryz.f16)
theorem f16v1_c8_ok (hc:SimCall C f16v1_e.call):LoopSim f16v1_e.loop (vc par C true [4,5,8,10,11,12,13,1000059,1000069,1000094] 138) f16v1_c8_c:=
 pO (env0:=⟨offJ f16v1_e.join 1000008,f16v1_e.call,f16v1_e.loop⟩) hc rfl f16v1_c8 (by intros;simp only [f16v1_c8,PD.m,nn]) (hl:=(lp_of (by kernel_rfl) (lp_cons (f16v1_c13_ok hc) lp_nil)))
noncomputable def f16v1_c5_c:Code:=subAt [1,1,1,0,0,1] (bodyOf Tryz.f16)
theorem f16v1_c5_ok (hc:SimCall C f16v1_e.call):LoopSim f16v1_e.loop (vc par C true [4,5,8,10,11,12,13,1000059,1000069,1000094] 138) f16v1_c5_c:=
 pO (env0:=⟨offJ f16v1_e.join 1000005,f16v1_e.call,f16v1_e.loop⟩) hc rfl f16v1_c5 (by intros;simp only [f16v1_c5,PD.m,nn]) (hl:=(lp_of (by kernel_rfl) (lp_cons (f16v1_c8_ok hc) lp_nil)))
theorem f16v1_ok:OK (166020696663385964546) 16 (f16v1_s.sp f16v1_m):=
 fO (d:=166020696663385964545) (env:=f16v1_e) (callsL_sim (cc f46v1_ok (cc f49v1_ok (cc f47v1_ok (cc f50_ok (cc f51_ok (cc f52v1_ok cn))))))) (fn:=Tryz.f16) (mc:=@f16v1_c) (by intros;simp only [f16v1_m,f16v1_c,nn]) (locs:=[4,5,8,10,11,12,13,1000059,1000069,1000094]) (sh:=(.agg [.any,(.lit cCongr),(.lit cCongr)])) (fz:=true) (hl:=fun hc=>(lp_of (by kernel_rfl) (lp_cons (f16v1_r1_ok hc) (lp_cons (f16v1_r4_ok hc) (lp_cons (f16v1_c5_ok hc) lp_nil)))))
def f17_s:FS (Bool×TMods×(List TCongr)×(List TCongr)) (Bool) where
 sk:=⟨(.cons (.agg (.cons .bool (.cons (.all 0) (.cons (.all 1) .nil)))) (.cons (.agg kM) .nil)),[.cells cCongr,.cells cCongr],0⟩
 a:=fun u=>(u.1.1.1,(q3 u.1.2.1),u.2.1,u.2.2.1)
 n:=fun a=>(((a.1,((),((),()))),((w3 a.2.1),())),(a.2.2.1,(a.2.2.2,())))
 o:=fun Z a r K=>K (.bool r) ⟨[.cells cCongr a.2.2.1,.cells cCongr a.2.2.2],0⟩
def f17_l4:LD ((Bool×(TMods×((List TCongr)×(List TCongr))))) (Int) ((Unit) ⊕ (Unit)) where
 sk:=⟨[(2,.loc 0 0),(3,.loc 1 0),(5,.v (.int .i64))],[(.cons .bool (.cons (.all 0) (.cons (.all 1) .nil))),kM],[.cells cCongr,.cells cCongr],0,2⟩
 p:=fun u=>(u.2.1.1.1,((q3 u.2.1.2.1),(u.2.2.1,u.2.2.2.1)))
 t:=fun u=>u.1.1
 n:=fun p t=>((t,()),(((p.1,((),((),()))),((w3 p.2.1),())),(p.2.2.1,(p.2.2.2,()))))
 st:=fun Y p t ki ke=>cond (decide (t<(nt (List.length p.2.2.1))))
  (ask (V.inRange t (List.length p.2.2.1)) (ask (V.inRange t (List.length p.2.1.2.1)) (cond (!(((gx p.2.2.1 (Int.toNat t) dCongr).1==(gx p.2.1.2.1 (Int.toNat t) dCongr).1)&&((decide ((gx p.2.2.1 (Int.toNat t) dCongr).2.1=(gx p.2.1.2.1 (Int.toNat t) dCongr).2.1))&&((decide ((gx p.2.2.1 (Int.toNat t) dCongr).2.2=(gx p.2.1.2.1 (Int.toNat t) dCongr).2.2))&&true))))
  (ke (.inl ()))
  (ki ((wi64 (t+(1:Int))))))))
  (ke (.inr (())))
 o:=fun Z p e K=>Sum.elim (fun e=>K .ret ⟨[(4,.v (.bool false))],[],⟨[.cells cCongr p.2.2.1,.cells cCongr p.2.2.2],0⟩,2⟩) (fun e=>K (.exit 0) ⟨[(2,.loc 0 0),(3,.loc 1 0)],[[.bool p.1,.all 0,.all 1],[.bool p.2.1.1,.lit cCongr p.2.1.2.1,.lit cCongr p.2.1.2.2]],⟨[.cells cCongr p.2.2.1,.cells cCongr p.2.2.2],0⟩,2⟩) e
 pol:=⟨[2,3,5],[],[],[]⟩
 pe:=[(.ret,⟨[4],[],[],[]⟩),(.exit 0,⟨[2,3],[],[],[]⟩)]
def f17_l9:LD ((Bool×(TMods×((List TCongr)×(List TCongr))))) (Int) ((Unit) ⊕ (Unit)) where
 sk:=⟨[(2,.loc 0 0),(3,.loc 1 0),(6,.v (.int .i64))],[(.cons .bool (.cons (.all 0) (.cons (.all 1) .nil))),kM],[.cells cCongr,.cells cCongr],0,2⟩
 p:=fun u=>(u.2.1.1.1,((q3 u.2.1.2.1),(u.2.2.1,u.2.2.2.1)))
 t:=fun u=>u.1.1
 n:=fun p t=>((t,()),(((p.1,((),((),()))),((w3 p.2.1),())),(p.2.2.1,(p.2.2.2,()))))
 st:=fun Y p t ki ke=>cond (decide (t<(nt (List.length p.2.2.2))))
  (ask (V.inRange t (List.length p.2.2.2)) (ask (V.inRange t (List.length p.2.1.2.2)) (cond (!(((gx p.2.2.2 (Int.toNat t) dCongr).1==(gx p.2.1.2.2 (Int.toNat t) dCongr).1)&&((decide ((gx p.2.2.2 (Int.toNat t) dCongr).2.1=(gx p.2.1.2.2 (Int.toNat t) dCongr).2.1))&&((decide ((gx p.2.2.2 (Int.toNat t) dCongr).2.2=(gx p.2.1.2.2 (Int.toNat t) dCongr).2.2))&&true))))
  (ke (.inl ()))
  (ki ((wi64 (t+(1:Int))))))))
  (ke (.inr (())))
 o:=fun Z p e K=>Sum.elim (fun e=>K .ret ⟨[(4,.v (.bool false))],[],⟨[.cells cCongr p.2.2.1,.cells cCongr p.2.2.2],0⟩,2⟩) (fun e=>K (.exit 2) ⟨[],[],⟨[.cells cCongr p.2.2.1,.cells cCongr p.2.2.2],0⟩,2⟩) e
 pol:=⟨[2,3,6],[],[],[]⟩
 pe:=[(.ret,⟨[4],[],[],[]⟩),(.exit 2,⟨[],[],[],[]⟩)]
def f17_c {X:Type} (a:Bool×TMods×(List TCongr)×(List TCongr)) (K:Bool->Option X):Option X:=
 cond (!(a.1==a.2.1.1))
 (K false)
 (cond (!(decide ((nt (List.length a.2.2.1))=(nt (List.length a.2.1.2.1)))))
 (K false)
 (cond (!(decide ((nt (List.length a.2.2.2))=(nt (List.length a.2.1.2.2)))))
 (K false)
 ((loopAll (f17_l4.m a) 0).bind fun e1=>
 Sum.elim (fun e2=>K false)
 (fun e3=>(loopAll (f17_l9.m a) 0).bind fun e4=>
 Sum.elim (fun e5=>K false)
 (fun e6=>K true) e4) e1)))
def f17_m (a:Bool×TMods×(List TCongr)×(List TCongr)):Option (Bool):=f17_c a some
def f17_sp:Spec:=f17_s.sp f17_m
noncomputable def f17_e:Env:=⟨fun k=>[].contains k,callsL [],fun X k s K=>if k=4 then f17_l4.q X s K else if k=9 then f17_l9.q X s K else none⟩
noncomputable def f17_l4_c:Code:=subAt [1,1,0,1,0,0] (bodyOf Tryz.f17)
theorem f17_l4_ok (hc:SimCall C f17_e.call):LoopSim f17_e.loop (vc par C true [2,3] 66) (.loop f17_l4_c):=
 lO hc f17_l4 (by intros;simp only [f17_l4,LD.m,nn])
noncomputable def f17_l9_c:Code:=subAt [1,1,1,0,1,0,0] (bodyOf Tryz.f17)
theorem f17_l9_ok (hc:SimCall C f17_e.call):LoopSim f17_e.loop (vc par C true [2,3] 66) (.loop f17_l9_c):=
 lO hc f17_l9 (by intros;simp only [f17_l9,LD.m,nn])
theorem f17_ok:OK (1) 17 (f17_s.sp f17_m):=
 fO (d:=0) (env:=f17_e) (callsL_sim cn) (fn:=Tryz.f17) (mc:=@f17_c) (by intros;simp only [f17_m,f17_c,nn]) (locs:=[2,3]) (hl:=fun hc=>(lp_of (by kernel_rfl) (lp_cons (f17_l4_ok hc) (lp_cons (f17_l9_ok hc) lp_nil))))
def f18_s:FS (Bool×(List TCongr)×(List TCongr)) ((List TCongr)×(List TCongr)) where
 sk:=⟨(.cons (.agg (.cons .bool (.cons (.all 0) (.cons (.all 1) .nil)))) .nil),[.cells cCongr,.cells cCongr],0⟩
 a:=fun u=>(u.1.1.1,u.2.1,u.2.2.1)
 n:=fun a=>(((a.1,((),((),()))),()),(a.2.1,(a.2.2,())))
 o:=fun Z a r K=>K (.tup []) ⟨[.cells cCongr r.1,.cells cCongr r.2],0⟩
def f18_l2:LD (Bool×(List TCongr)) (Int×(List TCongr)) ((List TCongr)) where
 sk:=⟨[(1,.loc 0 0),(2,.v (.int .i64))],[(.cons .bool (.cons (.all 0) (.cons (.all 1) .nil)))],[.cells cCongr,.cells cCongr],0,2⟩
 p:=fun u=>(u.2.1.1.1,u.2.2.2.1)
 t:=fun u=>(u.1.1,u.2.2.1)
 n:=fun p t=>((t.1,()),(((p.1,((),((),()))),()),(t.2,(p.2,()))))
 st:=fun Y p t ki ke=>cond (decide (t.1<(nt (List.length t.2))))
  (ask (V.inRange t.1 (List.length t.2)) (ki ((wi64 (t.1+(1:Int))),(List.set t.2 (Int.toNat t.1) (false,(0,4321))))))
  (ke (t.2))
 o:=fun Z p e K=>K (.exit 0) ⟨[(1,.loc 0 0)],[[.bool p.1,.all 0,.all 1]],⟨[.cells cCongr e,.cells cCongr p.2],0⟩,2⟩
 pol:=⟨[1,2],[],[],[]⟩
 pe:=[(.exit 0,⟨[1],[],[],[]⟩)]
def f18_l6:LD (Bool×(List TCongr)) (Int×(List TCongr)) ((List TCongr)) where
 sk:=⟨[(1,.loc 0 0),(3,.v (.int .i64))],[(.cons .bool (.cons (.all 0) (.cons (.all 1) .nil)))],[.cells cCongr,.cells cCongr],0,2⟩
 p:=fun u=>(u.2.1.1.1,u.2.2.1)
 t:=fun u=>(u.1.1,u.2.2.2.1)
 n:=fun p t=>((t.1,()),(((p.1,((),((),()))),()),(p.2,(t.2,()))))
 st:=fun Y p t ki ke=>cond (decide (t.1<(nt (List.length t.2))))
  (ask (V.inRange t.1 (List.length t.2)) (ki ((wi64 (t.1+(1:Int))),(List.set t.2 (Int.toNat t.1) (false,(0,4321))))))
  (ke (t.2))
 o:=fun Z p e K=>K (.exit 2) ⟨[],[],⟨[.cells cCongr p.2,.cells cCongr e],0⟩,2⟩
 pol:=⟨[1,3],[],[],[]⟩
 pe:=[(.exit 2,⟨[],[],[],[]⟩)]
def f18_c {X:Type} (a:Bool×(List TCongr)×(List TCongr)) (K:(List TCongr)×(List TCongr)->Option X):Option X:=
 (loopAll (f18_l2.m (a.1,a.2.2)) (0,a.2.1)).bind fun e1=>
 (loopAll (f18_l6.m (a.1,e1)) (0,a.2.2)).bind fun e2=>
 K (e1,e2)
def f18_m (a:Bool×(List TCongr)×(List TCongr)):Option ((List TCongr)×(List TCongr)):=f18_c a some
def f18_sp:Spec:=f18_s.sp f18_m
noncomputable def f18_e:Env:=⟨fun k=>[].contains k,callsL [],fun X k s K=>if k=2 then f18_l2.q X s K else if k=6 then f18_l6.q X s K else none⟩
noncomputable def f18_l2_c:Code:=subAt [1,0,1,0,0] (bodyOf Tryz.f18)
theorem f18_l2_ok (hc:SimCall C f18_e.call):LoopSim f18_e.loop (vc par C true [1] 28) (.loop f18_l2_c):=
 lO hc f18_l2 (by intros;simp only [f18_l2,LD.m,nn])
noncomputable def f18_l6_c:Code:=subAt [1,1,1,0,0] (bodyOf Tryz.f18)
theorem f18_l6_ok (hc:SimCall C f18_e.call):LoopSim f18_e.loop (vc par C true [1] 28) (.loop f18_l6_c):=
 lO hc f18_l6 (by intros;simp only [f18_l6,LD.m,nn])
theorem f18_ok:OK (1) 18 (f18_s.sp f18_m):=
 fO (d:=0) (env:=f18_e) (callsL_sim cn) (fn:=Tryz.f18) (mc:=@f18_c) (by intros;simp only [f18_m,f18_c,nn]) (locs:=[1]) (hl:=fun hc=>(lp_of (by kernel_rfl) (lp_cons (f18_l2_ok hc) (lp_cons (f18_l6_ok hc) lp_nil))))
def f109_s:FS (Int×Int) (TCongr) where
 sk:=⟨(.cons (.int .u64) (.cons (.int .i64) .nil)),[],0⟩
 a:=fun u=>(u.1.1,u.1.2.1)
 n:=fun a=>((a.1,(a.2,())),())
 o:=fun Z a r K=>K (.agg [.bool r.1,.int .i64 r.2.1,.int .i64 r.2.2]) ⟨[],0⟩
def f109_c {X:Type} (a:Int×Int) (K:TCongr->Option X):Option X:=
 (f111_m a.2).bind fun r1=>
 (f123_m (a.1,r1,(decide (a.2<(0:Int))))).bind fun r2=>
 K r2
def f109_m (a:Int×Int):Option (TCongr):=f109_c a some
def f109_sp:Spec:=f109_s.sp f109_m
noncomputable def f109_e:Env:=⟨fun k=>[].contains k,callsL [(111,f111_sp),(123,f123_sp)],fun X k s K=>none⟩
theorem f109_ok:OK (3) 109 (f109_s.sp f109_m):=
 fO (d:=2) (env:=f109_e) (callsL_sim (cc f111_ok (cc f123_ok cn))) (fn:=Tryz.f109) (mc:=@f109_c) (by intros;simp only [f109_m,f109_c,nn]) (locs:=[4])
def f135_s:FS (TCongr) (TCongr) where
 sk:=⟨(.cons (.agg kC) .nil),[],0⟩
 a:=fun u=>(q3 u.1.1)
 n:=fun a=>(((w3 a),()),())
 o:=fun Z a r K=>K (.agg [.bool r.1,.int .i64 r.2.1,.int .i64 r.2.2]) ⟨[],0⟩
def f135_c {X:Type} (a:TCongr) (K:TCongr->Option X):Option X:=
 cond a.1
 (K (true,(0,0)))
 ((f111_m a.2.1).bind fun r1=>
 (f109_m (r1,(wi64 ((0:Int)-a.2.2)))).bind fun r2=>
 K r2)
def f135_m (a:TCongr):Option (TCongr):=f135_c a some
def f135_sp:Spec:=f135_s.sp f135_m
noncomputable def f135_e:Env:=⟨fun k=>[].contains k,callsL [(105,f105_sp),(111,f111_sp),(109,f109_sp)],fun X k s K=>none⟩
theorem f135_ok:OK (4) 135 (f135_s.sp f135_m):=
 fO (d:=3) (env:=f135_e) (callsL_sim (cc f105_ok (cc f111_ok (cc f109_ok cn)))) (fn:=Tryz.f135) (mc:=@f135_c) (by intros;simp only [f135_m,f135_c,nn]) (locs:=[1,2])
def f110_s:FS (Int×Int) (Int) where
 sk:=⟨(.cons (.int .u64) (.cons (.int .u64) .nil)),[],0⟩
 a:=fun u=>(u.1.1,u.1.2.1)
 n:=fun a=>((a.1,(a.2,())),())
 o:=fun Z a r K=>K (.int .u64 r) ⟨[],0⟩
def f110_l1:LD (Unit) (Int×Int) (Int) where
 sk:=⟨[(0,.v (.int .u64)),(1,.v (.int .u64))],[],[],0,0⟩
 p:=fun u=>()
 t:=fun u=>(u.1.1,u.1.2.1)
 n:=fun p t=>((t.1,(t.2,())),((),()))
 st:=fun Y p t ki ke=>cond (!(decide (t.2=(0:Int))))
  (cond (decide (t.2=(0:Int)))
  (none)
  (ki (t.2,(Int.tmod t.1 t.2))))
  (ke (t.1))
 o:=fun Z p e K=>K (.exit 0) ⟨[(0,.v (.int .u64 e))],[],⟨[],0⟩,0⟩
 pol:=⟨[0,1],[],[],[]⟩
 pe:=[(.exit 0,⟨[0],[],[],[]⟩)]
def f110_c {X:Type} (a:Int×Int) (K:Int->Option X):Option X:=
 (loopAll (f110_l1.m ()) (a.1,a.2)).bind fun e1=>
 K e1
def f110_m (a:Int×Int):Option (Int):=f110_c a some
def f110_sp:Spec:=f110_s.sp f110_m
noncomputable def f110_e:Env:=⟨fun k=>[].contains k,callsL [],fun X k s K=>if k=1 then f110_l1.q X s K else none⟩
noncomputable def f110_l1_c:Code:=subAt [1,0,0,0] (bodyOf Tryz.f110)
theorem f110_l1_ok (hc:SimCall C f110_e.call):LoopSim f110_e.loop (vc par C true [] 12) (.loop f110_l1_c):=
 lO hc f110_l1 (by intros;simp only [f110_l1,LD.m,nn])
theorem f110_ok:OK (1) 110 (f110_s.sp f110_m):=
 fO (d:=0) (env:=f110_e) (callsL_sim cn) (fn:=Tryz.f110) (mc:=@f110_c) (by intros;simp only [f110_m,f110_c,nn]) (hl:=fun hc=>(lp_of (by kernel_rfl) (lp_cons (f110_l1_ok hc) lp_nil)))
def f56_s:FS (TCongr×TCongr) (TCongr) where
 sk:=⟨(.cons (.agg kC) (.cons (.agg kC) .nil)),[],0⟩
 a:=fun u=>((q3 u.1.1),(q3 u.1.2.1))
 n:=fun a=>(((w3 a.1),((w3 a.2),())),())
 o:=fun Z a r K=>K (.agg [.bool r.1,.int .i64 r.2.1,.int .i64 r.2.2]) ⟨[],0⟩
def f56_c {X:Type} (a:TCongr×TCongr) (K:TCongr->Option X):Option X:=
 cond a.1.1
 (K a.2)
 (cond a.2.1
 (K a.1)
 ((f111_m a.1.2.1).bind fun r1=>
 (f111_m a.2.2.1).bind fun r2=>
 (f110_m (r1,r2)).bind fun r3=>
 (f111_m (wi64 (a.1.2.2-a.2.2.2))).bind fun r4=>
 (f110_m (r3,r4)).bind fun r5=>
 (f109_m (r5,a.1.2.2)).bind fun r6=>
 K r6))
def f56_m (a:TCongr×TCongr):Option (TCongr):=f56_c a some
def f56_sp:Spec:=f56_s.sp f56_m
noncomputable def f56_e:Env:=⟨fun k=>[].contains k,callsL [(111,f111_sp),(110,f110_sp),(109,f109_sp)],fun X k s K=>none⟩
theorem f56_ok:OK (4) 56 (f56_s.sp f56_m):=
 fO (d:=3) (env:=f56_e) (callsL_sim (cc f111_ok (cc f110_ok (cc f109_ok cn)))) (fn:=Tryz.f56) (mc:=@f56_c) (by intros;simp only [f56_m,f56_c,nn]) (locs:=[2,3,4])
def f136_s:FS (TCongr) (TCongr) where
 sk:=⟨(.cons (.agg kC) .nil),[],0⟩
 a:=fun u=>(q3 u.1.1)
 n:=fun a=>(((w3 a),()),())
 o:=fun Z a r K=>K (.agg [.bool r.1,.int .i64 r.2.1,.int .i64 r.2.2]) ⟨[],0⟩
def f136_c {X:Type} (a:TCongr) (K:TCongr->Option X):Option X:=
 cond a.1
 (K (true,(0,0)))
 (cond (decide (a.2.1=(0:Int)))
 ((f71_m (0,(if (wi64 ((0:Int)-a.2.2))>a.2.2 then (wi64 ((0:Int)-a.2.2)) else a.2.2))).bind fun r1=>
 K r1)
 ((f135_m a).bind fun r2=>
 (f56_m (a,r2)).bind fun r3=>
 K r3))
def f136_m (a:TCongr):Option (TCongr):=f136_c a some
def f136_sp:Spec:=f136_s.sp f136_m
noncomputable def f136_e:Env:=⟨fun k=>[].contains k,callsL [(105,f105_sp),(71,f71_sp),(135,f135_sp),(56,f56_sp)],fun X k s K=>none⟩
theorem f136_ok:OK (5) 136 (f136_s.sp f136_m):=
 fO (d:=4) (env:=f136_e) (callsL_sim (cc f105_ok (cc f71_ok (cc f135_ok (cc f56_ok cn))))) (fn:=Tryz.f136) (mc:=@f136_c) (by intros;simp only [f136_m,f136_c,nn]) (locs:=[1,2])
def f137_s:FS (TCongr×TCongr) (TCongr) where
 sk:=⟨(.cons (.agg kC) (.cons (.agg kC) .nil)),[],0⟩
 a:=fun u=>((q3 u.1.1),(q3 u.1.2.1))
 n:=fun a=>(((w3 a.1),((w3 a.2),())),())
 o:=fun Z a r K=>K (.agg [.bool r.1,.int .i64 r.2.1,.int .i64 r.2.2]) ⟨[],0⟩
def f137_c {X:Type} (a:TCongr×TCongr) (K:TCongr->Option X):Option X:=
 cond a.1.1
 (K (true,(0,0)))
 (cond a.2.1
 (K (true,(0,0)))
 ((f111_m a.1.2.1).bind fun r1=>
 (f111_m a.2.2.1).bind fun r2=>
 (f110_m (r1,r2)).bind fun r3=>
 (f109_m (r3,(wi64 (a.1.2.2+a.2.2.2)))).bind fun r4=>
 K r4))
def f137_m (a:TCongr×TCongr):Option (TCongr):=f137_c a some
def f137_sp:Spec:=f137_s.sp f137_m
noncomputable def f137_e:Env:=⟨fun k=>[].contains k,callsL [(105,f105_sp),(111,f111_sp),(110,f110_sp),(109,f109_sp)],fun X k s K=>none⟩
theorem f137_ok:OK (4) 137 (f137_s.sp f137_m):=
 fO (d:=3) (env:=f137_e) (callsL_sim (cc f105_ok (cc f111_ok (cc f110_ok (cc f109_ok cn))))) (fn:=Tryz.f137) (mc:=@f137_c) (by intros;simp only [f137_m,f137_c,nn]) (locs:=[2,3,4])
end
end Go.U
end
