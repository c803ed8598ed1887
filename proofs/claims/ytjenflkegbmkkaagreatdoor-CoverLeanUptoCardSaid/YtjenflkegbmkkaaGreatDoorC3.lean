/- The functions of the program as Lean functions, and that the evaluator says so. -/
import Derived.Test.YtjenflkegbmkkaaGreatDoorC2
set_option linter.unusedVariables false
set_option linter.unusedSimpArgs false
set_option linter.unusedSectionVars false
open Int renaming toNat→fa
open List renaming length→da,set→Oa
section
set_option maxRecDepth 100000
namespace Go.U
open Go Go.Proofs
noncomputable section
variable {C:V.Callee}
def T9:FS (Int×Int) (Int)where
 sk:=⟨Eg,[],0⟩
 a:=fun u=>(u.1.1,u.1.2.1)
 o:=fun Z a r K=>kv K .i [] 0 r ()
def iY{X:Type}(a:Int×Int)(K:Int->Option X):Option X:=
 K (if a.2<a.1 then a.2 else a.1)
def gY:=fun a=>iY a some
def kac:Spec:=T9.sp gY
noncomputable def Fah:Env:=eE [] (mb []) qN
theorem lac:OK (1) 87 (T9.sp gY):=
 fO (d:=0) (env:=Fah) (Da cn) (fn:=Tryz.f87) (mc:=@iY) (by intros;simp only[gY,iY,nn])
def S9:FS (Int×Int) (Int)where
 sk:=⟨Eg,[],0⟩
 a:=fun u=>(u.1.1,u.1.2.1)
 o:=fun Z a r K=>kv K .i [] 0 r ()
def eY{X:Type}(a:Int×Int)(K:Int->Option X):Option X:=
 K (if a.2>a.1 then a.2 else a.1)
def dY:=fun a=>eY a some
def iac:Spec:=S9.sp dY
noncomputable def Eah:Env:=eE [] (mb []) qN
theorem jac:OK (1) 88 (S9.sp dY):=
 fO (d:=0) (env:=Eah) (Da cn) (fn:=Tryz.f88) (mc:=@eY) (by intros;simp only[dY,eY,nn])
def JP:FS (ku) ((List Int))where
 sk:=⟨(cL [(.ptr 0 0),(.agg Kb)]),[.Za Yp,.cells .i,.deep .i,.cells (.slice .i)],0⟩
 a:=fun u=>((q8 u.1.2.1),(Ei u.2.1 (r6 u.2.1.t11 (u.2.2.1,u.t3.1,u.t4.1))))
 o:=fun Z a r K=>kv K (.Qc .nil) [.Za Yp,.cells .i,.deep .i,.cells (.slice .i)] 0 () ((Ei a.2 ((),(r6 a.t11 ((),(),(),())))),r,a.t18.1,a.t19,())
def xA{X:Type}(a:ku)(K:(List Int)->Option X):Option X:=
 ask (V.ja a.1.2.1 (da a.2.2.2.2.2.2.2.2.2.2.2.2.2.2.2.2.2.1)) (K (Oa a.2.2.2.2.2.2.2.2.2.2.2.2.2.2.2.2.2.1 (fa a.1.2.1) a.1.2.2.2.2.1))
def Ts:=fun a=>xA a some
def wY:Spec:=JP.sp Ts
noncomputable def v7:Env:=eE [] (mb []) qN
theorem xY:OK (1) 80 (JP.sp Ts):=
 fO (d:=0) (env:=v7) (Da cn) (fn:=Tryz.f80) (mc:=@xA) (by intros;simp only[Ts,xA,nn]) (Fa:=[3])
def LP:FS (Y19) (Unit)where
 sk:=⟨(cL [(.ptr 0 0),(.agg Kb),.i]),[.Za Yp,.cells .i,.deep .i,.cells (.slice .i)],0⟩
 a:=fun u=>((q8 u.1.2.1),u.1.2.2.1,(Ei u.2.1 (r6 u.2.1.t11 (u.2.2.1,u.t3.1,u.t4.1))))
 o:=fun Z a r K=>kv K (.Qc .nil) [.Za Yp,.cells .i,.deep .i,.cells (.slice .i)] 0 () ((Ei a.2.2 ((),a.t12.1,(1:Int),a.1.t5.1,a.2.1,a.t16.1,a.t17.1,(),(),(),())),a.t18.1,a.t19.1,a.t20,())
def pH{X:Type}(a:Y19)(K:Unit->Option X):Option X:=
 K ()
def oH:=fun a=>pH a some
def tg:Spec:=LP.sp oH
noncomputable def x7:Env:=eE [] (mb []) qN
theorem ug:OK (1) 78 (LP.sp oH):=
 fO (d:=0) (env:=x7) (Da cn) (fn:=Tryz.f78) (mc:=@pH) (by intros;simp only[oH,pH,nn]) (Fa:=[4])
end
end Go.U
end
