/- The functions of the program as Lean functions, and that the evaluator says so. -/
import Derived.Test.YtjenflkegbmkkaaGreatDoorC2
set_option linter.unusedVariables false
set_option linter.unusedSimpArgs false
set_option linter.unusedSectionVars false
section
set_option maxRecDepth 100000
namespace Go.U
open Go Go.Proofs
noncomputable section
variable {C:V.Callee}
def X5:FS (Int×Int) (Int) where
 sk:=⟨Qi,[],0⟩
 a:=fun u=>(u.1.1,u.1.2.1)
 n:=fun a=>((a.1,(a.2,())),())
 o:=fun Z a r K=>K (.int .i64 r) ⟨[],0⟩
def nV {X:Type} (a:Int×Int) (K:Int->Option X):Option X:=
 K (Ga (a.1 * a.2))
def mV:=fun a=>nV a some
def e_:Spec:=X5.sp mV
noncomputable def aae:Env:=⟨fun k=>[].contains k,Cb [],fun X k s K=>none⟩
theorem f_:OK (1) 85 (X5.sp mV):=
 fO (d:=0) (env:=aae) (Aa cn) (fn:=Tryz.f85) (mc:=@nV) (by intros;simp only [mV,nV,nn])
def W5:FS (Int×Int) (Int) where
 sk:=⟨Qi,[],0⟩
 a:=fun u=>(u.1.1,u.1.2.1)
 n:=fun a=>((a.1,(a.2,())),())
 o:=fun Z a r K=>K (.int .i64 r) ⟨[],0⟩
def jV {X:Type} (a:Int×Int) (K:Int->Option X):Option X:=
 K (if a.2<a.1 then a.2 else a.1)
def iV:=fun a=>jV a some
def c_:Spec:=W5.sp iV
noncomputable def Zad:Env:=⟨fun k=>[].contains k,Cb [],fun X k s K=>none⟩
theorem d_:OK (1) 87 (W5.sp iV):=
 fO (d:=0) (env:=Zad) (Aa cn) (fn:=Tryz.f87) (mc:=@jV) (by intros;simp only [iV,jV,nn])
def V5:FS (Int×Int) (Int) where
 sk:=⟨Qi,[],0⟩
 a:=fun u=>(u.1.1,u.1.2.1)
 n:=fun a=>((a.1,(a.2,())),())
 o:=fun Z a r K=>K (.int .i64 r) ⟨[],0⟩
def gV {X:Type} (a:Int×Int) (K:Int->Option X):Option X:=
 K (if a.2>a.1 then a.2 else a.1)
def eV:=fun a=>gV a some
def a_:Spec:=V5.sp eV
noncomputable def Yad:Env:=⟨fun k=>[].contains k,Cb [],fun X k s K=>none⟩
theorem b_:OK (1) 88 (V5.sp eV):=
 fO (d:=0) (env:=Yad) (Aa cn) (fn:=Tryz.f88) (mc:=@gV) (by intros;simp only [eV,gV,nn])
end
end Go.U
end
