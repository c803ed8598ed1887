/- The functions of the program as Lean functions, and that the evaluator says so. -/
import Derived.Test.YtjenflkegbmkkaaGreatDoorC8
set_option linter.unusedVariables false
set_option linter.unusedSimpArgs false
set_option linter.unusedSectionVars false
open List renaming length→fa
section
set_option maxRecDepth 100000
namespace Go.U
open Go Go.Proofs
noncomputable section
variable {C:V.Callee}
def Sad:FS (Unit) (Bool) where
 sk:=⟨.nil,[],0⟩
 a:=fun u=>()
 n:=fun a=>((),())
 o:=fun Z a r K=>K (.bool r) ⟨[],0⟩
def Z' {X:Type} (a:Unit) (K:Bool->Option X):Option X:=
 ask (decide (0<=(0:Int))&&decide ((0:Int)<=(1:Int))&&decide ((1:Int)<=(nt (fa ([[],([1]:List Int),([3]:List Int)]:List (List Int)))))) ((jo ((([(17,(0,(0,(0,(0,(0,(1,(-1)))))))),(12,(1,(0,(0,(0,(0,(2,(-1)))))))),(13,(0,(1,(0,(0,(0,(3,(-1)))))))),(1,(2,(0,(0,(3,(0,(4,(-1)))))))),(15,(0,(0,(2,(15,(0,(6,5))))))),(21,(0,(0,(0,(0,(1,((-1),(-1)))))))),(18,(0,(0,(0,(0,(0,(0,(-1))))))))]:List Fb),(0,(3,(0,(([((str [115]),(1,((-5),5)))]:List Tc),(([((str [120]),(1,0))]:List Xd),([],([(0,0),(0,32)]:List Ra)))))))),(List.drop 0 (List.take 1 ([[],([1]:List Int),([3]:List Int)]:List (List Int)))),9)).bind fun r1=>
 (Rp (r1.1,r1.2.1,r1.2.2)).bind fun r2=>
 cond (decide (r2=(3:Int)))
 (ask (decide (0<=(1:Int))&&decide ((1:Int)<=(2:Int))&&decide ((2:Int)<=(nt (fa ([[],([1]:List Int),([3]:List Int)]:List (List Int)))))) ((jo ((([(17,(0,(0,(0,(0,(0,(1,(-1)))))))),(12,(1,(0,(0,(0,(0,(2,(-1)))))))),(13,(0,(1,(0,(0,(0,(3,(-1)))))))),(1,(2,(0,(0,(3,(0,(4,(-1)))))))),(15,(0,(0,(2,(15,(0,(6,5))))))),(21,(0,(0,(0,(0,(1,((-1),(-1)))))))),(18,(0,(0,(0,(0,(0,(0,(-1))))))))]:List Fb),(0,(3,(0,(([((str [115]),(1,((-5),5)))]:List Tc),(([((str [120]),(1,0))]:List Xd),([],([(0,0),(0,32)]:List Ra)))))))),(List.drop 1 (List.take 2 ([[],([1]:List Int),([3]:List Int)]:List (List Int)))),9)).bind fun r3=>
 (Rp (r3.1,r3.2.1,r3.2.2)).bind fun r4=>
 cond (decide (r4=(12:Int)))
 (ask (decide (0<=(2:Int))&&decide ((2:Int)<=(nt (fa ([[],([1]:List Int),([3]:List Int)]:List (List Int)))))) ((jo ((([(17,(0,(0,(0,(0,(0,(1,(-1)))))))),(12,(1,(0,(0,(0,(0,(2,(-1)))))))),(13,(0,(1,(0,(0,(0,(3,(-1)))))))),(1,(2,(0,(0,(3,(0,(4,(-1)))))))),(15,(0,(0,(2,(15,(0,(6,5))))))),(21,(0,(0,(0,(0,(1,((-1),(-1)))))))),(18,(0,(0,(0,(0,(0,(0,(-1))))))))]:List Fb),(0,(3,(0,(([((str [115]),(1,((-5),5)))]:List Tc),(([((str [120]),(1,0))]:List Xd),([],([(0,0),(0,32)]:List Ra)))))))),(List.drop 2 ([[],([1]:List Int),([3]:List Int)]:List (List Int))),9)).bind fun r5=>
 (Rp (r5.1,r5.2.1,r5.2.2)).bind fun r6=>
 cond (decide (r6=(12:Int)))
 ((jo ((([(17,(0,(0,(0,(0,(0,(1,(-1)))))))),(12,(1,(0,(0,(0,(0,(2,(-1)))))))),(13,(0,(1,(0,(0,(0,(3,(-1)))))))),(1,(2,(0,(0,(3,(0,(4,(-1)))))))),(15,(0,(0,(2,(15,(0,(6,5))))))),(21,(0,(0,(0,(0,(1,((-1),(-1)))))))),(18,(0,(0,(0,(0,(0,(0,(-1))))))))]:List Fb),(0,(3,(0,(([((str [115]),(1,((-5),5)))]:List Tc),(([((str [120]),(1,0))]:List Xd),([],([(0,0),(0,32)]:List Ra)))))))),([[],([1]:List Int),([3]:List Int)]:List (List Int)),9)).bind fun r7=>
 (Rp (r7.1,r7.2.1,r7.2.2)).bind fun r8=>
 cond (decide (r8=(15:Int)))
 ((Mx ((([(17,(0,(0,(0,(0,(0,(1,(-1)))))))),(12,(1,(0,(0,(0,(0,(2,(-1)))))))),(13,(0,(1,(0,(0,(0,(3,(-1)))))))),(1,(2,(0,(0,(3,(0,(4,(-1)))))))),(15,(0,(0,(2,(15,(0,(6,5))))))),(21,(0,(0,(0,(0,(1,((-1),(-1)))))))),(18,(0,(0,(0,(0,(0,(0,(-1))))))))]:List Fb),(0,(3,(0,(([((str [115]),(1,((-5),5)))]:List Tc),(([((str [120]),(1,0))]:List Xd),([],([(0,0),(0,32)]:List Ra)))))))),([[],([1]:List Int),([3]:List Int)]:List (List Int)),9)).bind fun r9=>
 (cO (r9,([1,2]:List Int))).bind fun Q4=>
 cond Q4
 (ask (decide (0<=(1:Int))&&decide ((1:Int)<=(2:Int))&&decide ((2:Int)<=(nt (fa ([[],([1]:List Int),([3]:List Int)]:List (List Int)))))) ((jo ((([(17,(0,(0,(0,(0,(0,(1,(-1)))))))),(12,(1,(0,(0,(0,(0,(2,(-1)))))))),(13,(0,(1,(0,(0,(0,(3,(-1)))))))),(1,(2,(0,(0,(3,(0,(4,(-1)))))))),(15,(0,(0,(2,(15,(0,(6,5))))))),(21,(0,(0,(0,(0,(1,((-1),(-1)))))))),(18,(0,(0,(0,(0,(0,(0,(-1))))))))]:List Fb),(0,(3,(0,(([((str [115]),(1,((-5),5)))]:List Tc),(([((str [120]),(1,0))]:List Xd),([],([(0,0),(0,32)]:List Ra)))))))),(List.drop 1 (List.take 2 ([[],([1]:List Int),([3]:List Int)]:List (List Int)))),9)).bind fun P4=>
 (gO ((([(17,(0,(0,(0,(0,(0,(1,(-1)))))))),(12,(1,(0,(0,(0,(0,(2,(-1)))))))),(13,(0,(1,(0,(0,(0,(3,(-1)))))))),(1,(2,(0,(0,(3,(0,(4,(-1)))))))),(15,(0,(0,(2,(15,(0,(6,5))))))),(21,(0,(0,(0,(0,(1,((-1),(-1)))))))),(18,(0,(0,(0,(0,(0,(0,(-1))))))))]:List Fb),(0,(3,(0,(([((str [115]),(1,((-5),5)))]:List Tc),(([((str [120]),(1,0))]:List Xd),([],([(0,0),(0,32)]:List Ra)))))))),P4.1,P4.2.1,P4.2.2)).bind fun r12=>
 K (r12.toList==(str [112,108,97,99,101,115,32,54,32,111,102,32,55,10,119,97,121,115,32,54,32,111,102,32,55,10,101,114,114,111,114,115,32,48,10,110,111,32,53,10,111,110,101,32,119,97,121,32,52,32,48,10]).toList)))
 (K false))
 (K false))
 (K false)))
 (K false)))
 (K false))
def UP:=fun a=>Z' a some
def Rad:Spec:=Sad.sp UP
noncomputable def qai:Env:=⟨fun k=>[].contains k,Cb [(34,Y_),(12,aY),(18,QX),(21,KX),(20,Baa),(16,Daa)],fun X k s K=>none⟩
theorem Tad:OK (8) 9 (Sad.sp UP):=
 fO (d:=7) (env:=qai) (Aa (cc Z_ (cc dY (cc RX (cc LX (cc Caa (cc Eaa cn))))))) (fn:=Tryz.f9) (mc:=@Z') (by intros;simp only [UP,Z',nn]) (za:=[1,2000004,2000005,2000006,2000040])
def G7:FS (Int) (Int) where
 sk:=⟨(.cons (.int .i64) .nil),[],0⟩
 a:=fun u=>u.1.1
 n:=fun a=>((a,()),())
 o:=fun Z a r K=>K (.int .i64 r) ⟨[],0⟩
def nO {X:Type} (a:Int) (K:Int->Option X):Option X:=
 cond (decide ((200:Int)<a))
 (K (Ga ((200:Int)+(Int.tmod a 50))))
 (K a)
def HD:=fun a=>nO a some
def Iaa:Spec:=G7.sp HD
noncomputable def Dae:Env:=⟨fun k=>[].contains k,Cb [],fun X k s K=>none⟩
theorem Jaa:OK (1) 10 (G7.sp HD):=
 fO (d:=0) (env:=Dae) (Aa cn) (fn:=Tryz.f10) (mc:=@nO) (by intros;simp only [HD,nO,nn])
end
end Go.U
end
