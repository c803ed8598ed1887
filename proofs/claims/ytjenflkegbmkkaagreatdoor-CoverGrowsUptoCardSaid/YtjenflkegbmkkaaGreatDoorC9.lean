/- The functions of the program as Lean functions, and that the evaluator says so. -/
import Derived.Test.YtjenflkegbmkkaaGreatDoorC8
set_option linter.unusedVariables false
set_option linter.unusedSimpArgs false
set_option linter.unusedSectionVars false
section
set_option maxRecDepth 100000
namespace Go.U
open Go Go.Proofs
noncomputable section
variable {C:V.Callee}
def f9_s:FS (Unit) (Bool) where
 sk:=⟨.nil,[],0⟩
 a:=fun u=>()
 n:=fun a=>((),())
 o:=fun Z a r K=>K (.bool r) ⟨[],0⟩
def f9_c {X:Type} (a:Unit) (K:Bool->Option X):Option X:=
 ask (decide (0<=(0:Int))&&decide ((0:Int)<=(1:Int))&&decide ((1:Int)<=(nt (List.length ([[],([1]:List Int),([3]:List Int)]:List (List Int)))))) ((f12_m ((([(17,(0,(0,(0,(0,(0,(1,(-1)))))))),(12,(1,(0,(0,(0,(0,(2,(-1)))))))),(13,(0,(1,(0,(0,(0,(3,(-1)))))))),(1,(2,(0,(0,(3,(0,(4,(-1)))))))),(15,(0,(0,(2,(15,(0,(6,5))))))),(21,(0,(0,(0,(0,(1,((-1),(-1)))))))),(18,(0,(0,(0,(0,(0,(0,(-1))))))))]:List TInstr),(0,(3,(0,(([((str [115]),(1,((-5),5)))]:List TInput),(([((str [120]),(1,0))]:List TScalar),([],([(0,0),(0,32)]:List TAlarm)))))))),(List.drop 0 (List.take 1 ([[],([1]:List Int),([3]:List Int)]:List (List Int)))),9)).bind fun r1=>
 (f18_m (r1.1,r1.2.1,r1.2.2)).bind fun r2=>
 cond (decide (r2=(3:Int)))
 (ask (decide (0<=(1:Int))&&decide ((1:Int)<=(2:Int))&&decide ((2:Int)<=(nt (List.length ([[],([1]:List Int),([3]:List Int)]:List (List Int)))))) ((f12_m ((([(17,(0,(0,(0,(0,(0,(1,(-1)))))))),(12,(1,(0,(0,(0,(0,(2,(-1)))))))),(13,(0,(1,(0,(0,(0,(3,(-1)))))))),(1,(2,(0,(0,(3,(0,(4,(-1)))))))),(15,(0,(0,(2,(15,(0,(6,5))))))),(21,(0,(0,(0,(0,(1,((-1),(-1)))))))),(18,(0,(0,(0,(0,(0,(0,(-1))))))))]:List TInstr),(0,(3,(0,(([((str [115]),(1,((-5),5)))]:List TInput),(([((str [120]),(1,0))]:List TScalar),([],([(0,0),(0,32)]:List TAlarm)))))))),(List.drop 1 (List.take 2 ([[],([1]:List Int),([3]:List Int)]:List (List Int)))),9)).bind fun r3=>
 (f18_m (r3.1,r3.2.1,r3.2.2)).bind fun r4=>
 cond (decide (r4=(12:Int)))
 (ask (decide (0<=(2:Int))&&decide ((2:Int)<=(nt (List.length ([[],([1]:List Int),([3]:List Int)]:List (List Int)))))) ((f12_m ((([(17,(0,(0,(0,(0,(0,(1,(-1)))))))),(12,(1,(0,(0,(0,(0,(2,(-1)))))))),(13,(0,(1,(0,(0,(0,(3,(-1)))))))),(1,(2,(0,(0,(3,(0,(4,(-1)))))))),(15,(0,(0,(2,(15,(0,(6,5))))))),(21,(0,(0,(0,(0,(1,((-1),(-1)))))))),(18,(0,(0,(0,(0,(0,(0,(-1))))))))]:List TInstr),(0,(3,(0,(([((str [115]),(1,((-5),5)))]:List TInput),(([((str [120]),(1,0))]:List TScalar),([],([(0,0),(0,32)]:List TAlarm)))))))),(List.drop 2 ([[],([1]:List Int),([3]:List Int)]:List (List Int))),9)).bind fun r5=>
 (f18_m (r5.1,r5.2.1,r5.2.2)).bind fun r6=>
 cond (decide (r6=(12:Int)))
 ((f12_m ((([(17,(0,(0,(0,(0,(0,(1,(-1)))))))),(12,(1,(0,(0,(0,(0,(2,(-1)))))))),(13,(0,(1,(0,(0,(0,(3,(-1)))))))),(1,(2,(0,(0,(3,(0,(4,(-1)))))))),(15,(0,(0,(2,(15,(0,(6,5))))))),(21,(0,(0,(0,(0,(1,((-1),(-1)))))))),(18,(0,(0,(0,(0,(0,(0,(-1))))))))]:List TInstr),(0,(3,(0,(([((str [115]),(1,((-5),5)))]:List TInput),(([((str [120]),(1,0))]:List TScalar),([],([(0,0),(0,32)]:List TAlarm)))))))),([[],([1]:List Int),([3]:List Int)]:List (List Int)),9)).bind fun r7=>
 (f18_m (r7.1,r7.2.1,r7.2.2)).bind fun r8=>
 cond (decide (r8=(15:Int)))
 ((f21_m ((([(17,(0,(0,(0,(0,(0,(1,(-1)))))))),(12,(1,(0,(0,(0,(0,(2,(-1)))))))),(13,(0,(1,(0,(0,(0,(3,(-1)))))))),(1,(2,(0,(0,(3,(0,(4,(-1)))))))),(15,(0,(0,(2,(15,(0,(6,5))))))),(21,(0,(0,(0,(0,(1,((-1),(-1)))))))),(18,(0,(0,(0,(0,(0,(0,(-1))))))))]:List TInstr),(0,(3,(0,(([((str [115]),(1,((-5),5)))]:List TInput),(([((str [120]),(1,0))]:List TScalar),([],([(0,0),(0,32)]:List TAlarm)))))))),([[],([1]:List Int),([3]:List Int)]:List (List Int)),9)).bind fun r9=>
 (f20_m (r9,([1,2]:List Int))).bind fun r10=>
 cond r10
 (ask (decide (0<=(1:Int))&&decide ((1:Int)<=(2:Int))&&decide ((2:Int)<=(nt (List.length ([[],([1]:List Int),([3]:List Int)]:List (List Int)))))) ((f12_m ((([(17,(0,(0,(0,(0,(0,(1,(-1)))))))),(12,(1,(0,(0,(0,(0,(2,(-1)))))))),(13,(0,(1,(0,(0,(0,(3,(-1)))))))),(1,(2,(0,(0,(3,(0,(4,(-1)))))))),(15,(0,(0,(2,(15,(0,(6,5))))))),(21,(0,(0,(0,(0,(1,((-1),(-1)))))))),(18,(0,(0,(0,(0,(0,(0,(-1))))))))]:List TInstr),(0,(3,(0,(([((str [115]),(1,((-5),5)))]:List TInput),(([((str [120]),(1,0))]:List TScalar),([],([(0,0),(0,32)]:List TAlarm)))))))),(List.drop 1 (List.take 2 ([[],([1]:List Int),([3]:List Int)]:List (List Int)))),9)).bind fun r11=>
 (f16_m ((([(17,(0,(0,(0,(0,(0,(1,(-1)))))))),(12,(1,(0,(0,(0,(0,(2,(-1)))))))),(13,(0,(1,(0,(0,(0,(3,(-1)))))))),(1,(2,(0,(0,(3,(0,(4,(-1)))))))),(15,(0,(0,(2,(15,(0,(6,5))))))),(21,(0,(0,(0,(0,(1,((-1),(-1)))))))),(18,(0,(0,(0,(0,(0,(0,(-1))))))))]:List TInstr),(0,(3,(0,(([((str [115]),(1,((-5),5)))]:List TInput),(([((str [120]),(1,0))]:List TScalar),([],([(0,0),(0,32)]:List TAlarm)))))))),r11.1,r11.2.1,r11.2.2)).bind fun r12=>
 K (r12.toList==(str [112,108,97,99,101,115,32,54,32,111,102,32,55,10,119,97,121,115,32,54,32,111,102,32,55,10,101,114,114,111,114,115,32,48,10,110,111,32,53,10,111,110,101,32,119,97,121,32,52,32,48,10]).toList)))
 (K false))
 (K false))
 (K false)))
 (K false)))
 (K false))
def f9_m:=fun a=>f9_c a some
def f9_sp:Spec:=f9_s.sp f9_m
noncomputable def f9_e:Env:=⟨fun k=>[].contains k,callsL [(34,f34_sp),(12,f12_sp),(18,f18_sp),(21,f21_sp),(20,f20_sp),(16,f16_sp)],fun X k s K=>none⟩
theorem f9_ok:OK (8) 9 (f9_s.sp f9_m):=
 fO (d:=7) (env:=f9_e) (callsL_sim (cc f34_ok (cc f12_ok (cc f18_ok (cc f21_ok (cc f20_ok (cc f16_ok cn))))))) (fn:=Tryz.f9) (mc:=@f9_c) (by intros;simp only [f9_m,f9_c,nn]) (locs:=[1,2000004,2000005,2000006,2000040])
def f10_s:FS (Int) (Int) where
 sk:=⟨(.cons (.int .i64) .nil),[],0⟩
 a:=fun u=>u.1.1
 n:=fun a=>((a,()),())
 o:=fun Z a r K=>K (.int .i64 r) ⟨[],0⟩
def f10_c {X:Type} (a:Int) (K:Int->Option X):Option X:=
 cond (decide ((200:Int)<a))
 (K (wi64 ((200:Int)+(Int.tmod a 50))))
 (K a)
def f10_m:=fun a=>f10_c a some
def f10_sp:Spec:=f10_s.sp f10_m
noncomputable def f10_e:Env:=⟨fun k=>[].contains k,callsL [],fun X k s K=>none⟩
theorem f10_ok:OK (1) 10 (f10_s.sp f10_m):=
 fO (d:=0) (env:=f10_e) (callsL_sim cn) (fn:=Tryz.f10) (mc:=@f10_c) (by intros;simp only [f10_m,f10_c,nn])
end
end Go.U
end
