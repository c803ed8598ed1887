/- The functions of the program as Lean functions, and that the evaluator says so. -/
import Derived.Test.YtjenflkegbmkkaaGreatDoorC2
set_option linter.unusedVariables false
set_option linter.unusedSimpArgs false
set_option linter.unusedSectionVars false
open Int renaming toNat→fa
open List renaming length→da,set→Qa
section
set_option maxRecDepth 100000
namespace Go.U
open Go Go.Proofs
noncomputable section
variable {C:V.Callee}
def N8:FS (Int×Int) (Int)where
 sk:=⟨Gg,[],0⟩
 a:=fun u=>(u.1.1,u.1.2.1)
 o:=fun Z a r K=>kv K .i [] 0 r ()
def lX{X:Type}(a:Int×Int)(K:Int->Option X):Option X:=
 K (if a.2<a.1 then a.2 else a.1)
def kX:=fun a=>lX a some
def pab:Spec:=N8.sp kX
noncomputable def Mag:Env:=eE [] (yb []) qN
theorem qab:OK (1) 87 (N8.sp kX):=
 fO (d:=0) (env:=Mag) (Da cn) (fn:=Tryz.f87) (mc:=@lX) (by intros;simp only[kX,lX,nn])
def M8:FS (Int×Int) (Int)where
 sk:=⟨Gg,[],0⟩
 a:=fun u=>(u.1.1,u.1.2.1)
 o:=fun Z a r K=>kv K .i [] 0 r ()
def jX{X:Type}(a:Int×Int)(K:Int->Option X):Option X:=
 K (if a.2>a.1 then a.2 else a.1)
def iX:=fun a=>jX a some
def nab:Spec:=M8.sp iX
noncomputable def Lag:Env:=eE [] (yb []) qN
theorem oab:OK (1) 88 (M8.sp iX):=
 fO (d:=0) (env:=Lag) (Da cn) (fn:=Tryz.f88) (mc:=@jX) (by intros;simp only[iX,jX,nn])
def UO:FS (Qt) ((List Int))where
 sk:=⟨(cL [(.ptr 0 0),(.agg Mb)]),[.Ya Cp,.cells .i,.deep .i,.cells (.slice .i)],0⟩
 a:=fun u=>((q8 u.1.2.1),(Zh u.2.1 (r6 u.2.1.t11 (u.2.2.1,u.t3.1,u.t4.1))))
 o:=fun Z a r K=>kv K (.Sc .nil) [.Ya Cp,.cells .i,.deep .i,.cells (.slice .i)] 0 () ((Zh a.2 ((),(r6 a.t11 ((),(),(),())))),r,a.t18.1,a.t19,())
def lA{X:Type}(a:Qt)(K:(List Int)->Option X):Option X:=
 ask (V.ja a.1.2.1 (da a.2.2.2.2.2.2.2.2.2.2.2.2.2.2.2.2.2.1)) (K (Qa a.2.2.2.2.2.2.2.2.2.2.2.2.2.2.2.2.2.1 (fa a.1.2.1) a.1.2.2.2.2.1))
def Yr:=fun a=>lA a some
def zX:Spec:=UO.sp Yr
noncomputable def T5:Env:=eE [] (yb []) qN
theorem AX:OK (1) 80 (UO.sp Yr):=
 fO (d:=0) (env:=T5) (Da cn) (fn:=Tryz.f80) (mc:=@lA) (by intros;simp only[Yr,lA,nn]) (Fa:=[3])
def WO:FS (Y19) (Unit)where
 sk:=⟨(cL [(.ptr 0 0),(.agg Mb),.i]),[.Ya Cp,.cells .i,.deep .i,.cells (.slice .i)],0⟩
 a:=fun u=>((q8 u.1.2.1),u.1.2.2.1,(Zh u.2.1 (r6 u.2.1.t11 (u.2.2.1,u.t3.1,u.t4.1))))
 o:=fun Z a r K=>kv K (.Sc .nil) [.Ya Cp,.cells .i,.deep .i,.cells (.slice .i)] 0 () ((Zh a.2.2 ((),a.t12.1,(1:Int),a.1.t5.1,a.2.1,a.t16.1,a.t17.1,(),(),(),())),a.t18.1,a.t19.1,a.t20,())
def LG{X:Type}(a:Y19)(K:Unit->Option X):Option X:=
 K ()
def KG:=fun a=>LG a some
def ug:Spec:=WO.sp KG
noncomputable def V5:Env:=eE [] (yb []) qN
theorem vg:OK (1) 78 (WO.sp KG):=
 fO (d:=0) (env:=V5) (Da cn) (fn:=Tryz.f78) (mc:=@LG) (by intros;simp only[KG,LG,nn]) (Fa:=[4])
end
end Go.U
end
