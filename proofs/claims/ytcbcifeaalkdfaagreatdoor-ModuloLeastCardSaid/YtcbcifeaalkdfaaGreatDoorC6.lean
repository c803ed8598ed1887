/- The functions of the program as Lean functions, and that the evaluator says so. -/
import Derived.Test.YtcbcifeaalkdfaaGreatDoorC5
set_option linter.unusedVariables false
set_option linter.unusedSimpArgs false
set_option linter.unusedSectionVars false
section
set_option maxRecDepth 100000
namespace Go.U
open Go Go.Proofs
noncomputable section
variable {C:V.Callee}
def f109_s:FS (Int×Int) (TCongr) where
 sk:=⟨(.cons (.int .u64) (.cons (.int .i64) .nil)),[],0⟩
 a:=fun u=>(u.1.1,u.1.2.1)
 n:=fun a=>((a.1,(a.2,())),())
 o:=fun Z a r K=>K (.agg [.bool r.1,.int .i64 r.2.1,.int .i64 r.2.2]) ⟨[],0⟩
def f109_c {X:Type} (a:Int×Int) (K:TCongr→Option X):Option X:=
 (f111_m a.2).bind fun r1=>
 (f123_m (a.1,r1,(decide (a.2<(0:Int))))).bind fun r2=>
 K r2
def f109_m (a:Int×Int):Option (TCongr):=f109_c a some
def f109_sp:Spec:=f109_s.sp f109_m
noncomputable def f109_e:Env:=⟨fun k=>[].contains k,callsL [(111,f111_sp),(123,f123_sp)],fun X k s K=>none⟩
theorem f109_ok:OK (3) 109 (f109_s.sp f109_m):=
 fO (d:=2) (env:=f109_e) (callsL_sim (cc f111_ok (cc f123_ok cn))) (fn:=Tryz.f109) (mc:=@f109_c) (by intros;simp only [f109_m,f109_c,nn]) (locs:=[4])
def f135_s:FS (TCongr) (TCongr) where
 sk:=⟨(.cons (.agg kC) .nil),[],0⟩
 a:=fun u=>(q3 u.1.1)
 n:=fun a=>(((w3 a),()),())
 o:=fun Z a r K=>K (.agg [.bool r.1,.int .i64 r.2.1,.int .i64 r.2.2]) ⟨[],0⟩
def f135_c {X:Type} (a:TCongr) (K:TCongr→Option X):Option X:=
 cond a.1
 (K (true,(0,0)))
 ((f111_m a.2.1).bind fun r1=>
 (f109_m (r1,(wi64 ((0:Int)-a.2.2)))).bind fun r2=>
 K r2)
def f135_m (a:TCongr):Option (TCongr):=f135_c a some
def f135_sp:Spec:=f135_s.sp f135_m
noncomputable def f135_e:Env:=⟨fun k=>[].contains k,callsL [(105,f105_sp),(111,f111_sp),(109,f109_sp)],fun X k s K=>none⟩
theorem f135_ok:OK (4) 135 (f135_s.sp f135_m):=
 fO (d:=3) (env:=f135_e) (callsL_sim (cc f105_ok (cc f111_ok (cc f109_ok cn)))) (fn:=Tryz.f135) (mc:=@f135_c) (by intros;simp only [f135_m,f135_c,nn]) (locs:=[1,2])
def f110_s:FS (Int×Int) (Int) where
 sk:=⟨(.cons (.int .u64) (.cons (.int .u64) .nil)),[],0⟩
 a:=fun u=>(u.1.1,u.1.2.1)
 n:=fun a=>((a.1,(a.2,())),())
 o:=fun Z a r K=>K (.int .u64 r) ⟨[],0⟩
def f110_l1:LD (Unit) (Int×Int) (Int) where
 sk:=⟨[(0,.v (.int .u64)),(1,.v (.int .u64))],[],[],0,0⟩
 p:=fun u=>()
 t:=fun u=>(u.1.1,u.1.2.1)
 n:=fun p t=>((t.1,(t.2,())),((),()))
 st:=fun Y p t ki ke=>cond (!(decide (t.2=(0:Int))))
  (cond (decide (t.2=(0:Int)))
  (none)
  (ki (t.2,(Int.tmod t.1 t.2))))
  (ke (t.1))
 o:=fun Z p e K=>K (.exit 0) ⟨[(0,.v (.int .u64 e))],[],⟨[],0⟩,0⟩
 pol:=⟨[0,1],[],[],[]⟩
 pe:=[(.exit 0,⟨[0],[],[],[]⟩)]
def f110_c {X:Type} (a:Int×Int) (K:Int→Option X):Option X:=
 (loopAll (f110_l1.m ()) (a.1,a.2)).bind fun e1=>
 K e1
def f110_m (a:Int×Int):Option (Int):=f110_c a some
def f110_sp:Spec:=f110_s.sp f110_m
noncomputable def f110_e:Env:=⟨fun k=>[].contains k,callsL [],fun X k s K=>if k=1 then f110_l1.q X s K else none⟩
noncomputable def f110_l1_c:Code:=subAt [1,0,0,0] (bodyOf Tryz.f110)
theorem f110_l1_ok (hc:SimCall C f110_e.call):LoopSim f110_e.loop (vc par C true [] 12) (.loop f110_l1_c):=
 lO hc f110_l1 (by intros;simp only [f110_l1,LD.m,nn])
theorem f110_ok:OK (1) 110 (f110_s.sp f110_m):=
 fO (d:=0) (env:=f110_e) (callsL_sim cn) (fn:=Tryz.f110) (mc:=@f110_c) (by intros;simp only [f110_m,f110_c,nn]) (hl:=fun hc=>(lp_of (by kernel_rfl) (lp_cons (f110_l1_ok hc) lp_nil)))
def f56_s:FS (TCongr×TCongr) (TCongr) where
 sk:=⟨(.cons (.agg kC) (.cons (.agg kC) .nil)),[],0⟩
 a:=fun u=>((q3 u.1.1),(q3 u.1.2.1))
 n:=fun a=>(((w3 a.1),((w3 a.2),())),())
 o:=fun Z a r K=>K (.agg [.bool r.1,.int .i64 r.2.1,.int .i64 r.2.2]) ⟨[],0⟩
def f56_c {X:Type} (a:TCongr×TCongr) (K:TCongr→Option X):Option X:=
 cond a.1.1
 (K a.2)
 (cond a.2.1
 (K a.1)
 ((f111_m a.1.2.1).bind fun r1=>
 (f111_m a.2.2.1).bind fun r2=>
 (f110_m (r1,r2)).bind fun r3=>
 (f111_m (wi64 (a.1.2.2-a.2.2.2))).bind fun r4=>
 (f110_m (r3,r4)).bind fun r5=>
 (f109_m (r5,a.1.2.2)).bind fun r6=>
 K r6))
def f56_m (a:TCongr×TCongr):Option (TCongr):=f56_c a some
def f56_sp:Spec:=f56_s.sp f56_m
noncomputable def f56_e:Env:=⟨fun k=>[].contains k,callsL [(111,f111_sp),(110,f110_sp),(109,f109_sp)],fun X k s K=>none⟩
theorem f56_ok:OK (4) 56 (f56_s.sp f56_m):=
 fO (d:=3) (env:=f56_e) (callsL_sim (cc f111_ok (cc f110_ok (cc f109_ok cn)))) (fn:=Tryz.f56) (mc:=@f56_c) (by intros;simp only [f56_m,f56_c,nn]) (locs:=[2,3,4])
def f136_s:FS (TCongr) (TCongr) where
 sk:=⟨(.cons (.agg kC) .nil),[],0⟩
 a:=fun u=>(q3 u.1.1)
 n:=fun a=>(((w3 a),()),())
 o:=fun Z a r K=>K (.agg [.bool r.1,.int .i64 r.2.1,.int .i64 r.2.2]) ⟨[],0⟩
def f136_c {X:Type} (a:TCongr) (K:TCongr→Option X):Option X:=
 cond a.1
 (K (true,(0,0)))
 (cond (decide (a.2.1=(0:Int)))
 ((f71_m (0,(if (wi64 ((0:Int)-a.2.2))>a.2.2 then (wi64 ((0:Int)-a.2.2)) else a.2.2))).bind fun r1=>
 K r1)
 ((f135_m a).bind fun r2=>
 (f56_m (a,r2)).bind fun r3=>
 K r3))
def f136_m (a:TCongr):Option (TCongr):=f136_c a some
def f136_sp:Spec:=f136_s.sp f136_m
noncomputable def f136_e:Env:=⟨fun k=>[].contains k,callsL [(105,f105_sp),(71,f71_sp),(135,f135_sp),(56,f56_sp)],fun X k s K=>none⟩
theorem f136_ok:OK (5) 136 (f136_s.sp f136_m):=
 fO (d:=4) (env:=f136_e) (callsL_sim (cc f105_ok (cc f71_ok (cc f135_ok (cc f56_ok cn))))) (fn:=Tryz.f136) (mc:=@f136_c) (by intros;simp only [f136_m,f136_c,nn]) (locs:=[1,2])
def f137_s:FS (TCongr×TCongr) (TCongr) where
 sk:=⟨(.cons (.agg kC) (.cons (.agg kC) .nil)),[],0⟩
 a:=fun u=>((q3 u.1.1),(q3 u.1.2.1))
 n:=fun a=>(((w3 a.1),((w3 a.2),())),())
 o:=fun Z a r K=>K (.agg [.bool r.1,.int .i64 r.2.1,.int .i64 r.2.2]) ⟨[],0⟩
def f137_c {X:Type} (a:TCongr×TCongr) (K:TCongr→Option X):Option X:=
 cond a.1.1
 (K (true,(0,0)))
 (cond a.2.1
 (K (true,(0,0)))
 ((f111_m a.1.2.1).bind fun r1=>
 (f111_m a.2.2.1).bind fun r2=>
 (f110_m (r1,r2)).bind fun r3=>
 (f109_m (r3,(wi64 (a.1.2.2+a.2.2.2)))).bind fun r4=>
 K r4))
def f137_m (a:TCongr×TCongr):Option (TCongr):=f137_c a some
def f137_sp:Spec:=f137_s.sp f137_m
noncomputable def f137_e:Env:=⟨fun k=>[].contains k,callsL [(105,f105_sp),(111,f111_sp),(110,f110_sp),(109,f109_sp)],fun X k s K=>none⟩
theorem f137_ok:OK (4) 137 (f137_s.sp f137_m):=
 fO (d:=3) (env:=f137_e) (callsL_sim (cc f105_ok (cc f111_ok (cc f110_ok (cc f109_ok cn))))) (fn:=Tryz.f137) (mc:=@f137_c) (by intros;simp only [f137_m,f137_c,nn]) (locs:=[2,3,4])
def f138_s:FS (TCongr×TCongr) (TCongr) where
 sk:=⟨(.cons (.agg kC) (.cons (.agg kC) .nil)),[],0⟩
 a:=fun u=>((q3 u.1.1),(q3 u.1.2.1))
 n:=fun a=>(((w3 a.1),((w3 a.2),())),())
 o:=fun Z a r K=>K (.agg [.bool r.1,.int .i64 r.2.1,.int .i64 r.2.2]) ⟨[],0⟩
def f138_c {X:Type} (a:TCongr×TCongr) (K:TCongr→Option X):Option X:=
 cond a.1.1
 (K (true,(0,0)))
 (cond a.2.1
 (K (true,(0,0)))
 ((f111_m a.1.2.1).bind fun r1=>
 (f111_m a.2.2.1).bind fun r2=>
 (f110_m (r1,r2)).bind fun r3=>
 (f109_m (r3,(wi64 (a.1.2.2-a.2.2.2)))).bind fun r4=>
 K r4))
def f138_m (a:TCongr×TCongr):Option (TCongr):=f138_c a some
def f138_sp:Spec:=f138_s.sp f138_m
noncomputable def f138_e:Env:=⟨fun k=>[].contains k,callsL [(105,f105_sp),(111,f111_sp),(110,f110_sp),(109,f109_sp)],fun X k s K=>none⟩
theorem f138_ok:OK (4) 138 (f138_s.sp f138_m):=
 fO (d:=3) (env:=f138_e) (callsL_sim (cc f105_ok (cc f111_ok (cc f110_ok (cc f109_ok cn))))) (fn:=Tryz.f138) (mc:=@f138_c) (by intros;simp only [f138_m,f138_c,nn]) (locs:=[2,3,4])
def f139_s:FS (TCongr×TCongr) (TCongr) where
 sk:=⟨(.cons (.agg kC) (.cons (.agg kC) .nil)),[],0⟩
 a:=fun u=>((q3 u.1.1),(q3 u.1.2.1))
 n:=fun a=>(((w3 a.1),((w3 a.2),())),())
 o:=fun Z a r K=>K (.agg [.bool r.1,.int .i64 r.2.1,.int .i64 r.2.2]) ⟨[],0⟩
def f139_c {X:Type} (a:TCongr×TCongr) (K:TCongr→Option X):Option X:=
 cond a.1.1
 (K (true,(0,0)))
 (cond a.2.1
 (K (true,(0,0)))
 ((f111_m a.1.2.1).bind fun r1=>
 (f111_m a.2.2.1).bind fun r2=>
 (f111_m a.1.2.1).bind fun r3=>
 (f111_m a.2.2.2).bind fun r4=>
 (f111_m a.2.2.1).bind fun r5=>
 (f111_m a.1.2.2).bind fun r6=>
 (f110_m ((wu64 (r3 * r4)),(wu64 (r5 * r6)))).bind fun r7=>
 (f110_m ((wu64 (r1 * r2)),r7)).bind fun r8=>
 (f111_m a.1.2.2).bind fun r9=>
 (f111_m a.2.2.2).bind fun r10=>
 (f123_m (r8,(wu64 (r9 * r10)),(!((decide (a.1.2.2<(0:Int)))==(decide (a.2.2.2<(0:Int))))))).bind fun r11=>
 K r11))
def f139_m (a:TCongr×TCongr):Option (TCongr):=f139_c a some
def f139_sp:Spec:=f139_s.sp f139_m
noncomputable def f139_e:Env:=⟨fun k=>[].contains k,callsL [(105,f105_sp),(111,f111_sp),(110,f110_sp),(123,f123_sp)],fun X k s K=>none⟩
theorem f139_ok:OK (3) 139 (f139_s.sp f139_m):=
 fO (d:=2) (env:=f139_e) (callsL_sim (cc f105_ok (cc f111_ok (cc f110_ok (cc f123_ok cn))))) (fn:=Tryz.f139) (mc:=@f139_c) (by intros;simp only [f139_m,f139_c,nn]) (locs:=[2,3,4])
def f163_s:FS (Unit) (Unit) where
 sk:=⟨.nil,[],0⟩
 a:=fun u=>()
 n:=fun a=>((),())
 o:=fun Z a r K=>K (.agg [.bool false,.int .i64 1,.int .i64 0]) ⟨[],0⟩
def f163_c {X:Type} (a:Unit) (K:Unit→Option X):Option X:=
 K ()
def f163_m (a:Unit):Option (Unit):=f163_c a some
def f163_sp:Spec:=f163_s.sp f163_m
noncomputable def f163_e:Env:=⟨fun k=>[].contains k,callsL [],fun X k s K=>none⟩
theorem f163_ok:OK (1) 163 (f163_s.sp f163_m):=
 fO (d:=0) (env:=f163_e) (callsL_sim cn) (fn:=Tryz.f163) (mc:=@f163_c) (by intros;simp only [f163_m,f163_c,nn]) (locs:=[0])
def f140_s:FS (TCongr×TCongr) (TCongr) where
 sk:=⟨(.cons (.agg kC) (.cons (.agg kC) .nil)),[],0⟩
 a:=fun u=>((q3 u.1.1),(q3 u.1.2.1))
 n:=fun a=>(((w3 a.1),((w3 a.2),())),())
 o:=fun Z a r K=>K (.agg [.bool r.1,.int .i64 r.2.1,.int .i64 r.2.2]) ⟨[],0⟩
def f140_c {X:Type} (a:TCongr×TCongr) (K:TCongr→Option X):Option X:=
 cond a.1.1
 (K (true,(0,0)))
 (cond a.2.1
 (K (true,(0,0)))
 (cond ((a.2.1==false)&&((decide (a.2.2.1=(0:Int)))&&((decide (a.2.2.2=(0:Int)))&&true)))
 (K (true,(0,0)))
 (cond (!(decide (a.2.2.1=(0:Int))))
 (K (false,(1,0)))
 (cond (decide (a.1.2.1=(0:Int)))
 (cond (decide (a.2.2.2=(0:Int)))
 (none)
 (cond (decide (a.2.2.2=(0:Int)))
 (none)
 ((f71_m ((wi64 (Int.tdiv a.1.2.1 a.2.2.2)),(wi64 (Int.tdiv a.1.2.2 a.2.2.2)))).bind fun r1=>
 K r1)))
 (cond (decide (a.2.2.2=(0:Int)))
 (none)
 (cond (decide ((Int.tmod a.1.2.1 a.2.2.2)=(0:Int)))
 (cond (decide (a.2.2.2=(0:Int)))
 (none)
 (cond (decide ((Int.tmod a.1.2.2 a.2.2.2)=(0:Int)))
 (cond (decide (a.2.2.2=(0:Int)))
 (none)
 (cond (decide (a.2.2.2=(0:Int)))
 (none)
 ((f71_m ((wi64 (Int.tdiv a.1.2.1 a.2.2.2)),(wi64 (Int.tdiv a.1.2.2 a.2.2.2)))).bind fun r2=>
 K r2)))
 (K (false,(1,0)))))
 (K (false,(1,0)))))))))
def f140_m (a:TCongr×TCongr):Option (TCongr):=f140_c a some
def f140_sp:Spec:=f140_s.sp f140_m
noncomputable def f140_e:Env:=⟨fun k=>[].contains k,callsL [(105,f105_sp),(163,f163_sp),(71,f71_sp)],fun X k s K=>none⟩
theorem f140_ok:OK (4) 140 (f140_s.sp f140_m):=
 fO (d:=3) (env:=f140_e) (callsL_sim (cc f105_ok (cc f163_ok (cc f71_ok cn)))) (fn:=Tryz.f140) (mc:=@f140_c) (by intros;simp only [f140_m,f140_c,nn]) (locs:=[2,3,4,5])
def f141_s:FS (TCongr×TCongr) (TCongr) where
 sk:=⟨(.cons (.agg kC) (.cons (.agg kC) .nil)),[],0⟩
 a:=fun u=>((q3 u.1.1),(q3 u.1.2.1))
 n:=fun a=>(((w3 a.1),((w3 a.2),())),())
 o:=fun Z a r K=>K (.agg [.bool r.1,.int .i64 r.2.1,.int .i64 r.2.2]) ⟨[],0⟩
def f141_c {X:Type} (a:TCongr×TCongr) (K:TCongr→Option X):Option X:=
 cond a.1.1
 (K (true,(0,0)))
 (cond a.2.1
 (K (true,(0,0)))
 (cond ((a.2.1==false)&&((decide (a.2.2.1=(0:Int)))&&((decide (a.2.2.2=(0:Int)))&&true)))
 (K (true,(0,0)))
 (cond (decide (a.1.2.1=(0:Int)))
 (cond (decide (a.2.2.1=(0:Int)))
 (cond (decide (a.2.2.2=(0:Int)))
 (none)
 ((f71_m (0,(Int.tmod a.1.2.2 a.2.2.2))).bind fun r1=>
 K r1))
 ((f111_m a.1.2.1).bind fun r2=>
 (f111_m a.2.2.1).bind fun r3=>
 (f111_m a.2.2.2).bind fun r4=>
 (f110_m (r3,r4)).bind fun r5=>
 (f110_m (r2,r5)).bind fun r6=>
 (f109_m (r6,a.1.2.2)).bind fun r7=>
 K r7))
 ((f111_m a.1.2.1).bind fun r8=>
 (f111_m a.2.2.1).bind fun r9=>
 (f111_m a.2.2.2).bind fun r10=>
 (f110_m (r9,r10)).bind fun r11=>
 (f110_m (r8,r11)).bind fun r12=>
 (f109_m (r12,a.1.2.2)).bind fun r13=>
 K r13))))
def f141_m (a:TCongr×TCongr):Option (TCongr):=f141_c a some
def f141_sp:Spec:=f141_s.sp f141_m
noncomputable def f141_e:Env:=⟨fun k=>[].contains k,callsL [(105,f105_sp),(71,f71_sp),(111,f111_sp),(110,f110_sp),(109,f109_sp)],fun X k s K=>none⟩
theorem f141_ok:OK (4) 141 (f141_s.sp f141_m):=
 fO (d:=3) (env:=f141_e) (callsL_sim (cc f105_ok (cc f71_ok (cc f111_ok (cc f110_ok (cc f109_ok cn)))))) (fn:=Tryz.f141) (mc:=@f141_c) (by intros;simp only [f141_m,f141_c,nn]) (locs:=[2,3,4,5])
def f95_s:FS (TGraph×TMods×TInstr×(List TCongr)) (TCongr) where
 sk:=⟨(.cons (.agg kG) (.cons (.agg kM) (.cons (.all 0) (.cons (.agg kN) .nil)))),[.cells cCongr],0⟩
 a:=fun u=>((q8 u.1.1),(q3 u.1.2.1),(q8 u.1.2.2.2.1),u.2.1)
 n:=fun a=>(((w8 a.1),((w3 a.2.1),((),((w8 a.2.2.1),())))),(a.2.2.2,()))
 o:=fun Z a r K=>K (.agg [.bool r.1,.int .i64 r.2.1,.int .i64 r.2.2]) ⟨[.cells cCongr a.2.2.2],0⟩
def f95_c {X:Type} (a:TGraph×TMods×TInstr×(List TCongr)) (K:TCongr→Option X):Option X:=
 cond (decide (a.2.2.1.1=(1:Int)))
 ((f71_m (0,a.2.2.1.2.2.2.2.1)).bind fun r1=>
 K r1)
 (cond (decide (a.2.2.1.1=(2:Int)))
 (ask (V.inRange a.2.2.1.2.2.1 (List.length a.2.2.2)) ((f135_m (gx a.2.2.2 (Int.toNat a.2.2.1.2.2.1) dCongr)).bind fun r2=>
 K r2))
 (cond (decide (a.2.2.1.1=(3:Int)))
 (ask (V.inRange a.2.2.1.2.2.1 (List.length a.2.2.2)) ((f136_m (gx a.2.2.2 (Int.toNat a.2.2.1.2.2.1) dCongr)).bind fun r3=>
 K r3))
 (cond (decide (a.2.2.1.1=(4:Int)))
 (ask (V.inRange a.2.2.1.2.2.1 (List.length a.2.2.2)) (ask (V.inRange a.2.2.1.2.2.2.1 (List.length a.2.2.2)) ((f137_m ((gx a.2.2.2 (Int.toNat a.2.2.1.2.2.1) dCongr),(gx a.2.2.2 (Int.toNat a.2.2.1.2.2.2.1) dCongr))).bind fun r4=>
 K r4)))
 (cond (decide (a.2.2.1.1=(5:Int)))
 (ask (V.inRange a.2.2.1.2.2.1 (List.length a.2.2.2)) (ask (V.inRange a.2.2.1.2.2.2.1 (List.length a.2.2.2)) ((f138_m ((gx a.2.2.2 (Int.toNat a.2.2.1.2.2.1) dCongr),(gx a.2.2.2 (Int.toNat a.2.2.1.2.2.2.1) dCongr))).bind fun r5=>
 K r5)))
 (cond (decide (a.2.2.1.1=(6:Int)))
 (ask (V.inRange a.2.2.1.2.2.1 (List.length a.2.2.2)) (ask (V.inRange a.2.2.1.2.2.2.1 (List.length a.2.2.2)) ((f139_m ((gx a.2.2.2 (Int.toNat a.2.2.1.2.2.1) dCongr),(gx a.2.2.2 (Int.toNat a.2.2.1.2.2.2.1) dCongr))).bind fun r6=>
 K r6)))
 (cond (decide (a.2.2.1.1=(7:Int)))
 (ask (V.inRange a.2.2.1.2.2.1 (List.length a.2.2.2)) (ask (V.inRange a.2.2.1.2.2.2.1 (List.length a.2.2.2)) ((f140_m ((gx a.2.2.2 (Int.toNat a.2.2.1.2.2.1) dCongr),(gx a.2.2.2 (Int.toNat a.2.2.1.2.2.2.1) dCongr))).bind fun r7=>
 K r7)))
 (cond (decide (a.2.2.1.1=(8:Int)))
 (ask (V.inRange a.2.2.1.2.2.1 (List.length a.2.2.2)) (ask (V.inRange a.2.2.1.2.2.2.1 (List.length a.2.2.2)) ((f141_m ((gx a.2.2.2 (Int.toNat a.2.2.1.2.2.1) dCongr),(gx a.2.2.2 (Int.toNat a.2.2.1.2.2.2.1) dCongr))).bind fun r8=>
 K r8)))
 (cond (decide (a.2.2.1.1=(11:Int)))
 (ask (V.inRange a.2.2.1.2.2.1 (List.length a.2.1.2.2)) (K (gx a.2.1.2.2 (Int.toNat a.2.2.1.2.2.1) dCongr)))
 (cond (decide (a.2.2.1.1=(12:Int)))
 (ask (V.inRange a.2.2.1.2.2.1 (List.length a.1.2.2.2.2.1)) (cond (decide ((gx a.1.2.2.2.2.1 (Int.toNat a.2.2.1.2.2.1) dArray).2.2.1=(gx a.1.2.2.2.2.1 (Int.toNat a.2.2.1.2.2.1) dArray).2.2.2))
 ((f71_m (0,(gx a.1.2.2.2.2.1 (Int.toNat a.2.2.1.2.2.1) dArray).2.2.1)).bind fun r9=>
 K r9)
 ((f71_m (1,0)).bind fun r10=>
 K r10)))
 (ask (V.inRange a.2.2.1.2.2.1 (List.length a.2.2.2)) (cond (gx a.2.2.2 (Int.toNat a.2.2.1.2.2.1) dCongr).1
 (K (true,(0,0)))
 (ask (V.inRange a.2.2.1.2.2.2.1 (List.length a.2.2.2)) (cond (gx a.2.2.2 (Int.toNat a.2.2.1.2.2.2.1) dCongr).1
 (K (true,(0,0)))
 (ask (V.inRange a.2.2.1.2.2.1 (List.length a.2.2.2)) (ask (V.inRange a.2.2.1.2.2.2.1 (List.length a.2.2.2)) ((f56_m ((gx a.2.2.2 (Int.toNat a.2.2.1.2.2.1) dCongr),(gx a.2.2.2 (Int.toNat a.2.2.1.2.2.2.1) dCongr))).bind fun r11=>
 K r11))))))))))))))))
def f95_m (a:TGraph×TMods×TInstr×(List TCongr)):Option (TCongr):=f95_c a some
def f95_sp:Spec:=f95_s.sp f95_m
noncomputable def f95_e:Env:=⟨fun k=>[].contains k,callsL [(71,f71_sp),(135,f135_sp),(136,f136_sp),(137,f137_sp),(138,f138_sp),(139,f139_sp),(140,f140_sp),(141,f141_sp),(56,f56_sp)],fun X k s K=>none⟩
theorem f95_ok:OK (6) 95 (f95_s.sp f95_m):=
 fO (d:=5) (env:=f95_e) (callsL_sim (cc f71_ok (cc f135_ok (cc f136_ok (cc f137_ok (cc f138_ok (cc f139_ok (cc f140_ok (cc f141_ok (cc f56_ok cn)))))))))) (fn:=Tryz.f95) (mc:=@f95_c) (by intros;simp only [f95_m,f95_c,nn]) (locs:=[4,5,7,8,9])
def f48_s:FS (TGraph×TMods) ((List TCongr)) where
 sk:=⟨(.cons (.agg kG) (.cons (.agg kM) .nil)),[],0⟩
 a:=fun u=>((q8 u.1.1),(q3 u.1.2.1))
 n:=fun a=>(((w8 a.1),((w3 a.2),())),())
 o:=fun Z a r K=>K (.lit cCongr r) ⟨[],0⟩
def f48_l4:LD ((TGraph×TMods)) (Int×(List TCongr)) ((List TCongr)) where
 sk:=⟨[(2,.loc 0 0),(3,.loc 1 0),(5,.v (.all 0)),(6,.v (.int .i64))],[kG,kM],[.cells cCongr],0,0⟩
 p:=fun u=>((q8 u.2.1.1),(q3 u.2.1.2.1))
 t:=fun u=>(u.1.2.1,u.2.2.1)
 n:=fun p t=>(((),(t.1,())),(((w8 p.1),((w3 p.2),())),(t.2,())))
 st:=fun Y p t ki ke=>cond (decide (t.1<(nt (List.length p.1.1))))
  (ask (V.inRange t.1 (List.length p.1.1)) (cond (decide ((1:Int)≤(gx p.1.1 (Int.toNat t.1) dInstr).1))
  (cond (decide ((gx p.1.1 (Int.toNat t.1) dInstr).1≤(12:Int)))
  ((f95_m (p.1,p.2,(gx p.1.1 (Int.toNat t.1) dInstr),t.2)).bind fun r1=>
  ask (V.inRange (gx p.1.1 (Int.toNat t.1) dInstr).2.1 (List.length t.2)) (ki ((wi64 (t.1+(1:Int))),(List.set t.2 (Int.toNat (gx p.1.1 (Int.toNat t.1) dInstr).2.1) r1))))
  (ki ((wi64 (t.1+(1:Int))),t.2)))
  (ki ((wi64 (t.1+(1:Int))),t.2))))
  (ke (t.2))
 o:=fun Z p e K=>K (.exit 0) ⟨[(5,.v (.all 0))],[],⟨[.cells cCongr e],0⟩,0⟩
 pol:=⟨[2,3,5,6],[],[],[]⟩
 pe:=[(.exit 0,⟨[5],[],[],[]⟩)]
def f48_c {X:Type} (a:TGraph×TMods) (K:(List TCongr)→Option X):Option X:=
 ask (decide (0≤a.1.2.2.1)&&decide (a.1.2.2.1≤a.1.2.2.1)&&decide (24 * a.1.2.2.1≤70368744177664)&&decide (a.1.2.2.1<9223372036854775808)) ((loopAll (f48_l4.m a) (0,(cpyL 0 (min (List.length a.2.2.1) (List.length (List.replicate (Int.toNat a.1.2.2.1) ((false,(0,0)):TCongr)))) a.2.2.1 (List.replicate (Int.toNat a.1.2.2.1) ((false,(0,0)):TCongr))))).bind fun e1=>
 K e1)
def f48_m (a:TGraph×TMods):Option ((List TCongr)):=f48_c a some
def f48_sp:Spec:=f48_s.sp f48_m
noncomputable def f48_e:Env:=⟨fun k=>[].contains k,callsL [(95,f95_sp)],fun X k s K=>if k=4 then f48_l4.q X s K else none⟩
noncomputable def f48_l4_c:Code:=subAt [1,1,1,0,1,0,0] (bodyOf Tryz.f48)
theorem f48_l4_ok (hc:SimCall C f48_e.call):LoopSim f48_e.loop (vc par C true [2,3,7] 45) (.loop f48_l4_c):=
 lO hc f48_l4 (by intros;simp only [f48_l4,LD.m,nn])
theorem f48_ok:OK (7) 48 (f48_s.sp f48_m):=
 fO (d:=6) (env:=f48_e) (callsL_sim (cc f95_ok cn)) (fn:=Tryz.f48) (mc:=@f48_c) (by intros;simp only [f48_m,f48_c,nn]) (locs:=[2,3,7]) (sh:=(.lit cCongr)) (fz:=true) (hl:=fun hc=>(lp_of (by kernel_rfl) (lp_cons (f48_l4_ok hc) lp_nil)))
def f14_s:FS (TGraph×TMods×Int) (TCongr) where
 sk:=⟨(.cons (.agg kG) (.cons (.agg kM) (.cons (.int .i64) .nil))),[],0⟩
 a:=fun u=>((q8 u.1.1),(q3 u.1.2.1),u.1.2.2.1)
 n:=fun a=>(((w8 a.1),((w3 a.2.1),(a.2.2,()))),())
 o:=fun Z a r K=>K (.agg [.bool r.1,.int .i64 r.2.1,.int .i64 r.2.2]) ⟨[],0⟩
def f14_c {X:Type} (a:TGraph×TMods×Int) (K:TCongr→Option X):Option X:=
 cond (!a.2.1.1)
 (K (true,(0,0)))
 ((f48_m (a.1,a.2.1)).bind fun r1=>
 ask (V.inRange a.2.2 (List.length r1)) (K (gx r1 (Int.toNat a.2.2) dCongr)))
def f14_m (a:TGraph×TMods×Int):Option (TCongr):=f14_c a some
def f14_sp:Spec:=f14_s.sp f14_m
noncomputable def f14_e:Env:=⟨fun k=>[].contains k,callsL [(48,f48_sp)],fun X k s K=>none⟩
theorem f14_ok:OK (8) 14 (f14_s.sp f14_m):=
 fO (d:=7) (env:=f14_e) (callsL_sim (cc f48_ok cn)) (fn:=Tryz.f14) (mc:=@f14_c) (by intros;simp only [f14_m,f14_c,nn]) (locs:=[3,4,6])
end
end Go.U
end

