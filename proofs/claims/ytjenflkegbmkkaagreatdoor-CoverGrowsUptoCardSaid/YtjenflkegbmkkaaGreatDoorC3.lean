/- The functions of the program as Lean functions, and that the evaluator says so. -/
import Derived.Test.YtjenflkegbmkkaaGreatDoorC2
set_option linter.unusedVariables false
set_option linter.unusedSimpArgs false
set_option linter.unusedSectionVars false
section
set_option maxRecDepth 100000
namespace Go.U
open Go Go.Proofs
noncomputable section
variable {C:V.Callee}
def f85_s:FS (Int×Int) (Int) where
 sk:=⟨kAlarm,[],0⟩
 a:=fun u=>(u.1.1,u.1.2.1)
 n:=fun a=>((a.1,(a.2,())),())
 o:=fun Z a r K=>K (.int .i64 r) ⟨[],0⟩
def f85_c {X:Type} (a:Int×Int) (K:Int->Option X):Option X:=
 K (wi64 (a.1 * a.2))
def f85_m:=fun a=>f85_c a some
def f85_sp:Spec:=f85_s.sp f85_m
noncomputable def f85_e:Env:=⟨fun k=>[].contains k,callsL [],fun X k s K=>none⟩
theorem f85_ok:OK (1) 85 (f85_s.sp f85_m):=
 fO (d:=0) (env:=f85_e) (callsL_sim cn) (fn:=Tryz.f85) (mc:=@f85_c) (by intros;simp only [f85_m,f85_c,nn])
def f87_s:FS (Int×Int) (Int) where
 sk:=⟨kAlarm,[],0⟩
 a:=fun u=>(u.1.1,u.1.2.1)
 n:=fun a=>((a.1,(a.2,())),())
 o:=fun Z a r K=>K (.int .i64 r) ⟨[],0⟩
def f87_c {X:Type} (a:Int×Int) (K:Int->Option X):Option X:=
 K (if a.2<a.1 then a.2 else a.1)
def f87_m:=fun a=>f87_c a some
def f87_sp:Spec:=f87_s.sp f87_m
noncomputable def f87_e:Env:=⟨fun k=>[].contains k,callsL [],fun X k s K=>none⟩
theorem f87_ok:OK (1) 87 (f87_s.sp f87_m):=
 fO (d:=0) (env:=f87_e) (callsL_sim cn) (fn:=Tryz.f87) (mc:=@f87_c) (by intros;simp only [f87_m,f87_c,nn])
def f88_s:FS (Int×Int) (Int) where
 sk:=⟨kAlarm,[],0⟩
 a:=fun u=>(u.1.1,u.1.2.1)
 n:=fun a=>((a.1,(a.2,())),())
 o:=fun Z a r K=>K (.int .i64 r) ⟨[],0⟩
def f88_c {X:Type} (a:Int×Int) (K:Int->Option X):Option X:=
 K (if a.2>a.1 then a.2 else a.1)
def f88_m:=fun a=>f88_c a some
def f88_sp:Spec:=f88_s.sp f88_m
noncomputable def f88_e:Env:=⟨fun k=>[].contains k,callsL [],fun X k s K=>none⟩
theorem f88_ok:OK (1) 88 (f88_s.sp f88_m):=
 fO (d:=0) (env:=f88_e) (callsL_sim cn) (fn:=Tryz.f88) (mc:=@f88_c) (by intros;simp only [f88_m,f88_c,nn])
end
end Go.U
end
