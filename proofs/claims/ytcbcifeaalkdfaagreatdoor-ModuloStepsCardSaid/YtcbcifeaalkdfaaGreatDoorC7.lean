/- The functions of the program as Lean functions, and that the evaluator says so. -/
import Derived.Test.YtcbcifeaalkdfaaGreatDoorC6
set_option linter.unusedVariables false
set_option linter.unusedSimpArgs false
set_option linter.unusedSectionVars false
section
set_option maxRecDepth 100000
namespace Go.U
open Go Go.Proofs
noncomputable section
variable {C:V.Callee}
def f138_s:FS (TCongr×TCongr) (TCongr) where
 sk:=⟨(.cons (.agg kC) (.cons (.agg kC) .nil)),[],0⟩
 a:=fun u=>((q3 u.1.1),(q3 u.1.2.1))
 n:=fun a=>(((w3 a.1),((w3 a.2),())),())
 o:=fun Z a r K=>K (.agg [.bool r.1,.int .i64 r.2.1,.int .i64 r.2.2]) ⟨[],0⟩
def f138_c {X:Type} (a:TCongr×TCongr) (K:TCongr->Option X):Option X:=
 cond a.1.1
 (K (true,(0,0)))
 (cond a.2.1
 (K (true,(0,0)))
 ((f111_m a.1.2.1).bind fun r1=>
 (f111_m a.2.2.1).bind fun r2=>
 (f110_m (r1,r2)).bind fun r3=>
 (f109_m (r3,(wi64 (a.1.2.2-a.2.2.2)))).bind fun r4=>
 K r4))
def f138_m (a:TCongr×TCongr):Option (TCongr):=f138_c a some
def f138_sp:Spec:=f138_s.sp f138_m
noncomputable def f138_e:Env:=⟨fun k=>[].contains k,callsL [(105,f105_sp),(111,f111_sp),(110,f110_sp),(109,f109_sp)],fun X k s K=>none⟩
theorem f138_ok:OK (4) 138 (f138_s.sp f138_m):=
 fO (d:=3) (env:=f138_e) (callsL_sim (cc f105_ok (cc f111_ok (cc f110_ok (cc f109_ok cn))))) (fn:=Tryz.f138) (mc:=@f138_c) (by intros;simp only [f138_m,f138_c,nn]) (locs:=[2,3,4])
def f139_s:FS (TCongr×TCongr) (TCongr) where
 sk:=⟨(.cons (.agg kC) (.cons (.agg kC) .nil)),[],0⟩
 a:=fun u=>((q3 u.1.1),(q3 u.1.2.1))
 n:=fun a=>(((w3 a.1),((w3 a.2),())),())
 o:=fun Z a r K=>K (.agg [.bool r.1,.int .i64 r.2.1,.int .i64 r.2.2]) ⟨[],0⟩
def f139_c {X:Type} (a:TCongr×TCongr) (K:TCongr->Option X):Option X:=
 cond a.1.1
 (K (true,(0,0)))
 (cond a.2.1
 (K (true,(0,0)))
 ((f111_m a.1.2.1).bind fun r1=>
 (f111_m a.2.2.1).bind fun r2=>
 (f111_m a.1.2.1).bind fun r3=>
 (f111_m a.2.2.2).bind fun r4=>
 (f111_m a.2.2.1).bind fun r5=>
 (f111_m a.1.2.2).bind fun r6=>
 (f110_m ((wu64 (r3 * r4)),(wu64 (r5 * r6)))).bind fun r7=>
 (f110_m ((wu64 (r1 * r2)),r7)).bind fun r8=>
 (f111_m a.1.2.2).bind fun r9=>
 (f111_m a.2.2.2).bind fun r10=>
 (f123_m (r8,(wu64 (r9 * r10)),(!((decide (a.1.2.2<(0:Int)))==(decide (a.2.2.2<(0:Int))))))).bind fun r11=>
 K r11))
def f139_m (a:TCongr×TCongr):Option (TCongr):=f139_c a some
def f139_sp:Spec:=f139_s.sp f139_m
noncomputable def f139_e:Env:=⟨fun k=>[].contains k,callsL [(105,f105_sp),(111,f111_sp),(110,f110_sp),(123,f123_sp)],fun X k s K=>none⟩
theorem f139_ok:OK (3) 139 (f139_s.sp f139_m):=
 fO (d:=2) (env:=f139_e) (callsL_sim (cc f105_ok (cc f111_ok (cc f110_ok (cc f123_ok cn))))) (fn:=Tryz.f139) (mc:=@f139_c) (by intros;simp only [f139_m,f139_c,nn]) (locs:=[2,3,4])
def f163_s:FS (Unit) (Unit) where
 sk:=⟨.nil,[],0⟩
 a:=fun u=>()
 n:=fun a=>((),())
 o:=fun Z a r K=>K (.agg [.bool false,.int .i64 1,.int .i64 0]) ⟨[],0⟩
def f163_c {X:Type} (a:Unit) (K:Unit->Option X):Option X:=
 K ()
def f163_m (a:Unit):Option (Unit):=f163_c a some
def f163_sp:Spec:=f163_s.sp f163_m
noncomputable def f163_e:Env:=⟨fun k=>[].contains k,callsL [],fun X k s K=>none⟩
theorem f163_ok:OK (1) 163 (f163_s.sp f163_m):=
 fO (d:=0) (env:=f163_e) (callsL_sim cn) (fn:=Tryz.f163) (mc:=@f163_c) (by intros;simp only [f163_m,f163_c,nn]) (locs:=[0])
def f140_s:FS (TCongr×TCongr) (TCongr) where
 sk:=⟨(.cons (.agg kC) (.cons (.agg kC) .nil)),[],0⟩
 a:=fun u=>((q3 u.1.1),(q3 u.1.2.1))
 n:=fun a=>(((w3 a.1),((w3 a.2),())),())
 o:=fun Z a r K=>K (.agg [.bool r.1,.int .i64 r.2.1,.int .i64 r.2.2]) ⟨[],0⟩
def f140_c {X:Type} (a:TCongr×TCongr) (K:TCongr->Option X):Option X:=
 cond a.1.1
 (K (true,(0,0)))
 (cond a.2.1
 (K (true,(0,0)))
 (cond ((a.2.1==false)&&((decide (a.2.2.1=(0:Int)))&&((decide (a.2.2.2=(0:Int)))&&true)))
 (K (true,(0,0)))
 (cond (!(decide (a.2.2.1=(0:Int))))
 (K (false,(1,0)))
 (cond (decide (a.1.2.1=(0:Int)))
 (cond (decide (a.2.2.2=(0:Int)))
 (none)
 (cond (decide (a.2.2.2=(0:Int)))
 (none)
 ((f71_m ((wi64 (Int.tdiv a.1.2.1 a.2.2.2)),(wi64 (Int.tdiv a.1.2.2 a.2.2.2)))).bind fun r1=>
 K r1)))
 (cond (decide (a.2.2.2=(0:Int)))
 (none)
 (cond (decide ((Int.tmod a.1.2.1 a.2.2.2)=(0:Int)))
 (cond (decide (a.2.2.2=(0:Int)))
 (none)
 (cond (decide ((Int.tmod a.1.2.2 a.2.2.2)=(0:Int)))
 (cond (decide (a.2.2.2=(0:Int)))
 (none)
 (cond (decide (a.2.2.2=(0:Int)))
 (none)
 ((f71_m ((wi64 (Int.tdiv a.1.2.1 a.2.2.2)),(wi64 (Int.tdiv a.1.2.2 a.2.2.2)))).bind fun r2=>
 K r2)))
 (K (false,(1,0)))))
 (K (false,(1,0)))))))))
def f140_m (a:TCongr×TCongr):Option (TCongr):=f140_c a some
def f140_sp:Spec:=f140_s.sp f140_m
noncomputable def f140_e:Env:=⟨fun k=>[].contains k,callsL [(105,f105_sp),(163,f163_sp),(71,f71_sp)],fun X k s K=>none⟩
theorem f140_ok:OK (4) 140 (f140_s.sp f140_m):=
 fO (d:=3) (env:=f140_e) (callsL_sim (cc f105_ok (cc f163_ok (cc f71_ok cn)))) (fn:=Tryz.f140) (mc:=@f140_c) (by intros;simp only [f140_m,f140_c,nn]) (locs:=[2,3,4,5])
def f141_s:FS (TCongr×TCongr) (TCongr) where
 sk:=⟨(.cons (.agg kC) (.cons (.agg kC) .nil)),[],0⟩
 a:=fun u=>((q3 u.1.1),(q3 u.1.2.1))
 n:=fun a=>(((w3 a.1),((w3 a.2),())),())
 o:=fun Z a r K=>K (.agg [.bool r.1,.int .i64 r.2.1,.int .i64 r.2.2]) ⟨[],0⟩
def f141_c {X:Type} (a:TCongr×TCongr) (K:TCongr->Option X):Option X:=
 cond a.1.1
 (K (true,(0,0)))
 (cond a.2.1
 (K (true,(0,0)))
 (cond ((a.2.1==false)&&((decide (a.2.2.1=(0:Int)))&&((decide (a.2.2.2=(0:Int)))&&true)))
 (K (true,(0,0)))
 (cond (decide (a.1.2.1=(0:Int)))
 (cond (decide (a.2.2.1=(0:Int)))
 (cond (decide (a.2.2.2=(0:Int)))
 (none)
 ((f71_m (0,(Int.tmod a.1.2.2 a.2.2.2))).bind fun r1=>
 K r1))
 ((f111_m a.1.2.1).bind fun r2=>
 (f111_m a.2.2.1).bind fun r3=>
 (f111_m a.2.2.2).bind fun r4=>
 (f110_m (r3,r4)).bind fun r5=>
 (f110_m (r2,r5)).bind fun r6=>
 (f109_m (r6,a.1.2.2)).bind fun r7=>
 K r7))
 ((f111_m a.1.2.1).bind fun r8=>
 (f111_m a.2.2.1).bind fun r9=>
 (f111_m a.2.2.2).bind fun r10=>
 (f110_m (r9,r10)).bind fun r11=>
 (f110_m (r8,r11)).bind fun r12=>
 (f109_m (r12,a.1.2.2)).bind fun r13=>
 K r13))))
def f141_m (a:TCongr×TCongr):Option (TCongr):=f141_c a some
def f141_sp:Spec:=f141_s.sp f141_m
noncomputable def f141_e:Env:=⟨fun k=>[].contains k,callsL [(105,f105_sp),(71,f71_sp),(111,f111_sp),(110,f110_sp),(109,f109_sp)],fun X k s K=>none⟩
theorem f141_ok:OK (4) 141 (f141_s.sp f141_m):=
 fO (d:=3) (env:=f141_e) (callsL_sim (cc f105_ok (cc f71_ok (cc f111_ok (cc f110_ok (cc f109_ok cn)))))) (fn:=Tryz.f141) (mc:=@f141_c) (by intros;simp only [f141_m,f141_c,nn]) (locs:=[2,3,4,5])
def f95_s:FS (TGraph×TMods×TInstr×(List TCongr)) (TCongr) where
 sk:=⟨(.cons (.agg kG) (.cons (.agg kM) (.cons (.all 0) (.cons (.agg kN) .nil)))),[.cells cCongr],0⟩
 a:=fun u=>((q8 u.1.1),(q3 u.1.2.1),(q8 u.1.2.2.2.1),u.2.1)
 n:=fun a=>(((w8 a.1),((w3 a.2.1),((),((w8 a.2.2.1),())))),(a.2.2.2,()))
 o:=fun Z a r K=>K (.agg [.bool r.1,.int .i64 r.2.1,.int .i64 r.2.2]) ⟨[.cells cCongr a.2.2.2],0⟩
def f95_c {X:Type} (a:TGraph×TMods×TInstr×(List TCongr)) (K:TCongr->Option X):Option X:=
 cond (decide (a.2.2.1.1=(1:Int)))
 ((f71_m (0,a.2.2.1.2.2.2.2.1)).bind fun r1=>
 K r1)
 (cond (decide (a.2.2.1.1=(2:Int)))
 (ask (V.inRange a.2.2.1.2.2.1 (List.length a.2.2.2)) ((f135_m (gx a.2.2.2 (Int.toNat a.2.2.1.2.2.1) dCongr)).bind fun r2=>
 K r2))
 (cond (decide (a.2.2.1.1=(3:Int)))
 (ask (V.inRange a.2.2.1.2.2.1 (List.length a.2.2.2)) ((f136_m (gx a.2.2.2 (Int.toNat a.2.2.1.2.2.1) dCongr)).bind fun r3=>
 K r3))
 (cond (decide (a.2.2.1.1=(4:Int)))
 (ask (V.inRange a.2.2.1.2.2.1 (List.length a.2.2.2)) (ask (V.inRange a.2.2.1.2.2.2.1 (List.length a.2.2.2)) ((f137_m ((gx a.2.2.2 (Int.toNat a.2.2.1.2.2.1) dCongr),(gx a.2.2.2 (Int.toNat a.2.2.1.2.2.2.1) dCongr))).bind fun r4=>
 K r4)))
 (cond (decide (a.2.2.1.1=(5:Int)))
 (ask (V.inRange a.2.2.1.2.2.1 (List.length a.2.2.2)) (ask (V.inRange a.2.2.1.2.2.2.1 (List.length a.2.2.2)) ((f138_m ((gx a.2.2.2 (Int.toNat a.2.2.1.2.2.1) dCongr),(gx a.2.2.2 (Int.toNat a.2.2.1.2.2.2.1) dCongr))).bind fun r5=>
 K r5)))
 (cond (decide (a.2.2.1.1=(6:Int)))
 (ask (V.inRange a.2.2.1.2.2.1 (List.length a.2.2.2)) (ask (V.inRange a.2.2.1.2.2.2.1 (List.length a.2.2.2)) ((f139_m ((gx a.2.2.2 (Int.toNat a.2.2.1.2.2.1) dCongr),(gx a.2.2.2 (Int.toNat a.2.2.1.2.2.2.1) dCongr))).bind fun r6=>
 K r6)))
 (cond (decide (a.2.2.1.1=(7:Int)))
 (ask (V.inRange a.2.2.1.2.2.1 (List.length a.2.2.2)) (ask (V.inRange a.2.2.1.2.2.2.1 (List.length a.2.2.2)) ((f140_m ((gx a.2.2.2 (Int.toNat a.2.2.1.2.2.1) dCongr),(gx a.2.2.2 (Int.toNat a.2.2.1.2.2.2.1) dCongr))).bind fun r7=>
 K r7)))
 (cond (decide (a.2.2.1.1=(8:Int)))
 (ask (V.inRange a.2.2.1.2.2.1 (List.length a.2.2.2)) (ask (V.inRange a.2.2.1.2.2.2.1 (List.length a.2.2.2)) ((f141_m ((gx a.2.2.2 (Int.toNat a.2.2.1.2.2.1) dCongr),(gx a.2.2.2 (Int.toNat a.2.2.1.2.2.2.1) dCongr))).bind fun r8=>
 K r8)))
 (cond (decide (a.2.2.1.1=(11:Int)))
 (ask (V.inRange a.2.2.1.2.2.1 (List.length a.2.1.2.2)) (K (gx a.2.1.2.2 (Int.toNat a.2.2.1.2.2.1) dCongr)))
 (cond (decide (a.2.2.1.1=(12:Int)))
 (ask (V.inRange a.2.2.1.2.2.1 (List.length a.1.2.2.2.2.1)) (cond (decide ((gx a.1.2.2.2.2.1 (Int.toNat a.2.2.1.2.2.1) dArray).2.2.1=(gx a.1.2.2.2.2.1 (Int.toNat a.2.2.1.2.2.1) dArray).2.2.2))
 ((f71_m (0,(gx a.1.2.2.2.2.1 (Int.toNat a.2.2.1.2.2.1) dArray).2.2.1)).bind fun r9=>
 K r9)
 ((f71_m (1,0)).bind fun r10=>
 K r10)))
 (ask (V.inRange a.2.2.1.2.2.1 (List.length a.2.2.2)) (cond (gx a.2.2.2 (Int.toNat a.2.2.1.2.2.1) dCongr).1
 (K (true,(0,0)))
 (ask (V.inRange a.2.2.1.2.2.2.1 (List.length a.2.2.2)) (cond (gx a.2.2.2 (Int.toNat a.2.2.1.2.2.2.1) dCongr).1
 (K (true,(0,0)))
 (ask (V.inRange a.2.2.1.2.2.1 (List.length a.2.2.2)) (ask (V.inRange a.2.2.1.2.2.2.1 (List.length a.2.2.2)) ((f56_m ((gx a.2.2.2 (Int.toNat a.2.2.1.2.2.1) dCongr),(gx a.2.2.2 (Int.toNat a.2.2.1.2.2.2.1) dCongr))).bind fun r11=>
 K r11))))))))))))))))
def f95_m (a:TGraph×TMods×TInstr×(List TCongr)):Option (TCongr):=f95_c a some
def f95_sp:Spec:=f95_s.sp f95_m
noncomputable def f95_e:Env:=⟨fun k=>[].contains k,callsL [(71,f71_sp),(135,f135_sp),(136,f136_sp),(137,f137_sp),(138,f138_sp),(139,f139_sp),(140,f140_sp),(141,f141_sp),(56,f56_sp)],fun X k s K=>none⟩
theorem f95_ok:OK (6) 95 (f95_s.sp f95_m):=
 fO (d:=5) (env:=f95_e) (callsL_sim (cc f71_ok (cc f135_ok (cc f136_ok (cc f137_ok (cc f138_ok (cc f139_ok (cc f140_ok (cc f141_ok (cc f56_ok cn)))))))))) (fn:=Tryz.f95) (mc:=@f95_c) (by intros;simp only [f95_m,f95_c,nn]) (locs:=[4,5,7,8,9])
def f48_s:FS (TGraph×TMods) ((List TCongr)) where
 sk:=⟨(.cons (.agg kG) (.cons (.agg kM) .nil)),[],0⟩
 a:=fun u=>((q8 u.1.1),(q3 u.1.2.1))
 n:=fun a=>(((w8 a.1),((w3 a.2),())),())
 o:=fun Z a r K=>K (.lit cCongr r) ⟨[],0⟩
def f48_l4:LD ((TGraph×TMods)) (Int×(List TCongr)) ((List TCongr)) where
 sk:=⟨[(2,.loc 0 0),(3,.loc 1 0),(5,.v (.all 0)),(6,.v (.int .i64))],[kG,kM],[.cells cCongr],0,0⟩
 p:=fun u=>((q8 u.2.1.1),(q3 u.2.1.2.1))
 t:=fun u=>(u.1.2.1,u.2.2.1)
 n:=fun p t=>(((),(t.1,())),(((w8 p.1),((w3 p.2),())),(t.2,())))
 st:=fun Y p t ki ke=>cond (decide (t.1<(nt (List.length p.1.1))))
  (ask (V.inRange t.1 (List.length p.1.1)) (cond (decide ((1:Int)<=(gx p.1.1 (Int.toNat t.1) dInstr).1))
  (cond (decide ((gx p.1.1 (Int.toNat t.1) dInstr).1<=(12:Int)))
  ((f95_m (p.1,p.2,(gx p.1.1 (Int.toNat t.1) dInstr),t.2)).bind fun r1=>
  ask (V.inRange (gx p.1.1 (Int.toNat t.1) dInstr).2.1 (List.length t.2)) (ki ((wi64 (t.1+(1:Int))),(List.set t.2 (Int.toNat (gx p.1.1 (Int.toNat t.1) dInstr).2.1) r1))))
  (ki ((wi64 (t.1+(1:Int))),t.2)))
  (ki ((wi64 (t.1+(1:Int))),t.2))))
  (ke (t.2))
 o:=fun Z p e K=>K (.exit 0) ⟨[(5,.v (.all 0))],[],⟨[.cells cCongr e],0⟩,0⟩
 pol:=⟨[2,3,5,6],[],[],[]⟩
 pe:=[(.exit 0,⟨[5],[],[],[]⟩)]
def f48_c {X:Type} (a:TGraph×TMods) (K:(List TCongr)->Option X):Option X:=
 ask (decide (0<=a.1.2.2.1)&&decide (a.1.2.2.1<=a.1.2.2.1)&&decide (24 * a.1.2.2.1<=70368744177664)&&decide (a.1.2.2.1<9223372036854775808)) ((loopAll (f48_l4.m a) (0,(cpyL 0 (min (List.length a.2.2.1) (List.length (List.replicate (Int.toNat a.1.2.2.1) ((false,(0,0)):TCongr)))) a.2.2.1 (List.replicate (Int.toNat a.1.2.2.1) ((false,(0,0)):TCongr))))).bind fun e1=>
 K e1)
def f48_m (a:TGraph×TMods):Option ((List TCongr)):=f48_c a some
def f48_sp:Spec:=f48_s.sp f48_m
noncomputable def f48_e:Env:=⟨fun k=>[].contains k,callsL [(95,f95_sp)],fun X k s K=>if k=4 then f48_l4.q X s K else none⟩
noncomputable def f48_l4_c:Code:=subAt [1,1,1,0,1,0,0] (bodyOf Tryz.f48)
theorem f48_l4_ok (hc:SimCall C f48_e.call):LoopSim f48_e.loop (vc par C true [2,3,7] 45) (.loop f48_l4_c):=
 lO hc f48_l4 (by intros;simp only [f48_l4,LD.m,nn])
theorem f48_ok:OK (7) 48 (f48_s.sp f48_m):=
 fO (d:=6) (env:=f48_e) (callsL_sim (cc f95_ok cn)) (fn:=Tryz.f48) (mc:=@f48_c) (by intros;simp only [f48_m,f48_c,nn]) (locs:=[2,3,7]) (sh:=(.lit cCongr)) (fz:=true) (hl:=fun hc=>(lp_of (by kernel_rfl) (lp_cons (f48_l4_ok hc) lp_nil)))
def f106_s:FS (Unit) (Unit) where
 sk:=⟨.nil,[],0⟩
 a:=fun u=>()
 n:=fun a=>((),())
 o:=fun Z a r K=>K (.agg [.int .i64 1,.int .i64 0]) ⟨[],0⟩
def f106_c {X:Type} (a:Unit) (K:Unit->Option X):Option X:=
 K ()
def f106_m (a:Unit):Option (Unit):=f106_c a some
def f106_sp:Spec:=f106_s.sp f106_m
noncomputable def f106_e:Env:=⟨fun k=>[].contains k,callsL [],fun X k s K=>none⟩
theorem f106_ok:OK (1) 106 (f106_s.sp f106_m):=
 fO (d:=0) (env:=f106_e) (callsL_sim cn) (fn:=Tryz.f106) (mc:=@f106_c) (by intros;simp only [f106_m,f106_c,nn]) (locs:=[0])
def f54_s:FS (Int) (TItv) where
 sk:=⟨(.cons (.int .i64) .nil),[],0⟩
 a:=fun u=>u.1.1
 n:=fun a=>((a,()),())
 o:=fun Z a r K=>K (.agg [.int .i64 r.1,.int .i64 r.2]) ⟨[],0⟩
def f54_c {X:Type} (a:Int) (K:TItv->Option X):Option X:=
 cond (decide (a=(1:Int)))
 (K ((-128),127))
 (cond (decide (a=(2:Int)))
 (K ((-32768),32767))
 (cond (decide (a=(3:Int)))
 (K ((-2147483648),2147483647))
 (K (1,0))))
def f54_m (a:Int):Option (TItv):=f54_c a some
def f54_sp:Spec:=f54_s.sp f54_m
noncomputable def f54_e:Env:=⟨fun k=>[].contains k,callsL [(106,f106_sp)],fun X k s K=>none⟩
theorem f54_ok:OK (2) 54 (f54_s.sp f54_m):=
 fO (d:=1) (env:=f54_e) (callsL_sim (cc f106_ok cn)) (fn:=Tryz.f54) (mc:=@f54_c) (by intros;simp only [f54_m,f54_c,nn]) (locs:=[2])
def f108_s:FS (Int×Int) (TItv) where
 sk:=⟨kI,[],0⟩
 a:=fun u=>(u.1.1,u.1.2.1)
 n:=fun a=>((a.1,(a.2,())),())
 o:=fun Z a r K=>K (.agg [.int .i64 r.1,.int .i64 r.2]) ⟨[],0⟩
def f108_c {X:Type} (a:Int×Int) (K:TItv->Option X):Option X:=
 cond (decide (a.2<a.1))
 (K (1,0))
 (cond (decide (a.1<=(-4611686018427387904:Int)))
 (cond (decide ((4611686018427387904:Int)<=a.2))
 (K ((-4611686018427387904),4611686018427387904))
 (cond (decide (a.2<=(-4611686018427387904:Int)))
 (K ((-4611686018427387904),(-4611686018427387903)))
 (K ((-4611686018427387904),a.2))))
 (cond (decide ((4611686018427387904:Int)<=a.1))
 (cond (decide ((4611686018427387904:Int)<=a.2))
 (K (4611686018427387903,4611686018427387904))
 (cond (decide (a.2<=(-4611686018427387904:Int)))
 (K (4611686018427387903,(-4611686018427387903)))
 (K (4611686018427387903,a.2))))
 (cond (decide ((4611686018427387904:Int)<=a.2))
 (K (a.1,4611686018427387904))
 (cond (decide (a.2<=(-4611686018427387904:Int)))
 (K (a.1,(-4611686018427387903)))
 (K a)))))
def f108_m (a:Int×Int):Option (TItv):=f108_c a some
def f108_sp:Spec:=f108_s.sp f108_m
noncomputable def f108_e:Env:=⟨fun k=>[].contains k,callsL [(106,f106_sp)],fun X k s K=>none⟩
theorem f108_ok:OK (2) 108 (f108_s.sp f108_m):=
 fO (d:=1) (env:=f108_e) (callsL_sim (cc f106_ok cn)) (fn:=Tryz.f108) (mc:=@f108_c) (by intros;simp only [f108_m,f108_c,nn]) (locs:=[4])
def f150_s:FS (TItv) (TItv) where
 sk:=⟨(.cons (.agg kI) .nil),[],0⟩
 a:=fun u=>(u.1.1.1,u.1.1.2.1)
 n:=fun a=>(((a.1,(a.2,())),()),())
 o:=fun Z a r K=>K (.agg [.int .i64 r.1,.int .i64 r.2]) ⟨[],0⟩
def f150_c {X:Type} (a:TItv) (K:TItv->Option X):Option X:=
 (f108_m (a.1,a.2)).bind fun r1=>
 K r1
def f150_m (a:TItv):Option (TItv):=f150_c a some
def f150_sp:Spec:=f150_s.sp f150_m
noncomputable def f150_e:Env:=⟨fun k=>[].contains k,callsL [(108,f108_sp)],fun X k s K=>none⟩
theorem f150_ok:OK (3) 150 (f150_s.sp f150_m):=
 fO (d:=2) (env:=f150_e) (callsL_sim (cc f108_ok cn)) (fn:=Tryz.f150) (mc:=@f150_c) (by intros;simp only [f150_m,f150_c,nn]) (locs:=[1,2])
def f104_s:FS (TItv) (Bool) where
 sk:=⟨(.cons (.agg kI) .nil),[],0⟩
 a:=fun u=>(u.1.1.1,u.1.1.2.1)
 n:=fun a=>(((a.1,(a.2,())),()),())
 o:=fun Z a r K=>K (.bool r) ⟨[],0⟩
def f104_c {X:Type} (a:TItv) (K:Bool->Option X):Option X:=
 K (decide (a.2<a.1))
def f104_m (a:TItv):Option (Bool):=f104_c a some
def f104_sp:Spec:=f104_s.sp f104_m
noncomputable def f104_e:Env:=⟨fun k=>[].contains k,callsL [],fun X k s K=>none⟩
theorem f104_ok:OK (1) 104 (f104_s.sp f104_m):=
 fO (d:=0) (env:=f104_e) (callsL_sim cn) (fn:=Tryz.f104) (mc:=@f104_c) (by intros;simp only [f104_m,f104_c,nn]) (locs:=[1])
def f151_s:FS (Int×Int) (Int) where
 sk:=⟨kI,[],0⟩
 a:=fun u=>(u.1.1,u.1.2.1)
 n:=fun a=>((a.1,(a.2,())),())
 o:=fun Z a r K=>K (.int .i64 r) ⟨[],0⟩
def f151_c {X:Type} (a:Int×Int) (K:Int->Option X):Option X:=
 cond (decide (a.2<a.1))
 (K a.1)
 (K a.2)
def f151_m (a:Int×Int):Option (Int):=f151_c a some
def f151_sp:Spec:=f151_s.sp f151_m
noncomputable def f151_e:Env:=⟨fun k=>[].contains k,callsL [],fun X k s K=>none⟩
theorem f151_ok:OK (1) 151 (f151_s.sp f151_m):=
 fO (d:=0) (env:=f151_e) (callsL_sim cn) (fn:=Tryz.f151) (mc:=@f151_c) (by intros;simp only [f151_m,f151_c,nn])
def f152_s:FS (Int×Int) (Int) where
 sk:=⟨kI,[],0⟩
 a:=fun u=>(u.1.1,u.1.2.1)
 n:=fun a=>((a.1,(a.2,())),())
 o:=fun Z a r K=>K (.int .i64 r) ⟨[],0⟩
def f152_c {X:Type} (a:Int×Int) (K:Int->Option X):Option X:=
 cond (decide (a.1<a.2))
 (K a.1)
 (K a.2)
def f152_m (a:Int×Int):Option (Int):=f152_c a some
def f152_sp:Spec:=f152_s.sp f152_m
noncomputable def f152_e:Env:=⟨fun k=>[].contains k,callsL [],fun X k s K=>none⟩
theorem f152_ok:OK (1) 152 (f152_s.sp f152_m):=
 fO (d:=0) (env:=f152_e) (callsL_sim cn) (fn:=Tryz.f152) (mc:=@f152_c) (by intros;simp only [f152_m,f152_c,nn])
def f103_s:FS (TItv×TItv) (TItv) where
 sk:=⟨(.cons (.agg kI) (.cons (.agg kI) .nil)),[],0⟩
 a:=fun u=>((u.1.1.1,u.1.1.2.1),(u.1.2.1.1,u.1.2.1.2.1))
 n:=fun a=>(((a.1.1,(a.1.2,())),((a.2.1,(a.2.2,())),())),())
 o:=fun Z a r K=>K (.agg [.int .i64 r.1,.int .i64 r.2]) ⟨[],0⟩
def f103_c {X:Type} (a:TItv×TItv) (K:TItv->Option X):Option X:=
 (f150_m a.1).bind fun r1=>
 (f150_m a.2).bind fun r2=>
 cond (decide (r1.2<r1.1))
 (K (1,0))
 (cond (decide (r2.2<r2.1))
 (K (1,0))
 ((f151_m (r1.1,r2.1)).bind fun r3=>
 (f152_m (r1.2,r2.2)).bind fun r4=>
 (f108_m (r3,r4)).bind fun r5=>
 K r5))
def f103_m (a:TItv×TItv):Option (TItv):=f103_c a some
def f103_sp:Spec:=f103_s.sp f103_m
noncomputable def f103_e:Env:=⟨fun k=>[].contains k,callsL [(150,f150_sp),(104,f104_sp),(106,f106_sp),(151,f151_sp),(152,f152_sp),(108,f108_sp)],fun X k s K=>none⟩
theorem f103_ok:OK (4) 103 (f103_s.sp f103_m):=
 fO (d:=3) (env:=f103_e) (callsL_sim (cc f150_ok (cc f104_ok (cc f106_ok (cc f151_ok (cc f152_ok (cc f108_ok cn))))))) (fn:=Tryz.f103) (mc:=@f103_c) (by intros;simp only [f103_m,f103_c,nn]) (locs:=[2,3,4])
def f107_s:FS (TItv×Int) (Bool) where
 sk:=⟨(.cons (.agg kI) (.cons (.int .i64) .nil)),[],0⟩
 a:=fun u=>((u.1.1.1,u.1.1.2.1),u.1.2.1)
 n:=fun a=>(((a.1.1,(a.1.2,())),(a.2,())),())
 o:=fun Z a r K=>K (.bool r) ⟨[],0⟩
def f107_c {X:Type} (a:TItv×Int) (K:Bool->Option X):Option X:=
 (f150_m a.1).bind fun r1=>
 cond (decide (r1.1<=r1.2))
 (cond (decide (r1.1=(-4611686018427387904:Int)))
 (cond (decide (r1.2=(4611686018427387904:Int)))
 (K true)
 (K (decide (a.2<=r1.2))))
 (cond (decide (r1.1<=a.2))
 (cond (decide (r1.2=(4611686018427387904:Int)))
 (K true)
 (K (decide (a.2<=r1.2))))
 (K false)))
 (K false)
def f107_m (a:TItv×Int):Option (Bool):=f107_c a some
def f107_sp:Spec:=f107_s.sp f107_m
noncomputable def f107_e:Env:=⟨fun k=>[].contains k,callsL [(150,f150_sp)],fun X k s K=>none⟩
theorem f107_ok:OK (4) 107 (f107_s.sp f107_m):=
 fO (d:=3) (env:=f107_e) (callsL_sim (cc f150_ok cn)) (fn:=Tryz.f107) (mc:=@f107_c) (by intros;simp only [f107_m,f107_c,nn]) (locs:=[2])
def f53_s:FS (TCongr×TItv) (TCongr×TItv) where
 sk:=⟨(.cons (.agg kC) (.cons (.agg kI) .nil)),[],0⟩
 a:=fun u=>((q3 u.1.1),(u.1.2.1.1,u.1.2.1.2.1))
 n:=fun a=>(((w3 a.1),((a.2.1,(a.2.2,())),())),())
 o:=fun Z a r K=>K (.tup [.agg [.bool r.1.1,.int .i64 r.1.2.1,.int .i64 r.1.2.2],.agg [.int .i64 r.2.1,.int .i64 r.2.2]]) ⟨[],0⟩
def f53_c {X:Type} (a:TCongr×TItv) (K:(TCongr×TItv)->Option X):Option X:=
 (f54_m 3).bind fun r1=>
 (f103_m (a.2,r1)).bind fun r2=>
 cond a.1.1
 (K ((true,(0,0)),(1,0)))
 (cond (decide (r2.2<r2.1))
 (K ((true,(0,0)),(1,0)))
 (cond (decide (a.1.2.1=(0:Int)))
 ((f107_m (r2,a.1.2.2)).bind fun r3=>
 cond r3
 ((f108_m (a.1.2.2,a.1.2.2)).bind fun r4=>
 K (a.1,r4))
 (K ((true,(0,0)),(1,0))))
 (cond (decide (a.1.2.1=(0:Int)))
 (none)
 (cond (decide (a.1.2.1=(0:Int)))
 (none)
 (cond (decide (a.1.2.1=(0:Int)))
 (none)
 (cond (decide (a.1.2.1=(0:Int)))
 (none)
 (cond (decide ((wi64 (r2.2-(Int.tmod (wi64 ((Int.tmod (wi64 (r2.2-a.1.2.2)) a.1.2.1)+a.1.2.1)) a.1.2.1)))<(wi64 (r2.1+(Int.tmod (wi64 ((Int.tmod (wi64 (a.1.2.2-r2.1)) a.1.2.1)+a.1.2.1)) a.1.2.1)))))
 (K ((true,(0,0)),(1,0)))
 (cond (decide ((wi64 (r2.1+(Int.tmod (wi64 ((Int.tmod (wi64 (a.1.2.2-r2.1)) a.1.2.1)+a.1.2.1)) a.1.2.1)))=(wi64 (r2.2-(Int.tmod (wi64 ((Int.tmod (wi64 (r2.2-a.1.2.2)) a.1.2.1)+a.1.2.1)) a.1.2.1)))))
 ((f108_m ((wi64 (r2.1+(Int.tmod (wi64 ((Int.tmod (wi64 (a.1.2.2-r2.1)) a.1.2.1)+a.1.2.1)) a.1.2.1))),(wi64 (r2.1+(Int.tmod (wi64 ((Int.tmod (wi64 (a.1.2.2-r2.1)) a.1.2.1)+a.1.2.1)) a.1.2.1))))).bind fun r5=>
 K ((false,(0,(wi64 (r2.1+(Int.tmod (wi64 ((Int.tmod (wi64 (a.1.2.2-r2.1)) a.1.2.1)+a.1.2.1)) a.1.2.1))))),r5))
 ((f108_m ((wi64 (r2.1+(Int.tmod (wi64 ((Int.tmod (wi64 (a.1.2.2-r2.1)) a.1.2.1)+a.1.2.1)) a.1.2.1))),(wi64 (r2.2-(Int.tmod (wi64 ((Int.tmod (wi64 (r2.2-a.1.2.2)) a.1.2.1)+a.1.2.1)) a.1.2.1))))).bind fun r6=>
 K (a.1,r6))))))))))
def f53_m (a:TCongr×TItv):Option (TCongr×TItv):=f53_c a some
def f53_sp:Spec:=f53_s.sp f53_m
noncomputable def f53_e:Env:=⟨fun k=>[].contains k,callsL [(54,f54_sp),(103,f103_sp),(105,f105_sp),(106,f106_sp),(104,f104_sp),(107,f107_sp),(108,f108_sp)],fun X k s K=>none⟩
theorem f53_ok:OK (5) 53 (f53_s.sp f53_m):=
 fO (d:=4) (env:=f53_e) (callsL_sim (cc f54_ok (cc f103_ok (cc f105_ok (cc f106_ok (cc f104_ok (cc f107_ok (cc f108_ok cn)))))))) (fn:=Tryz.f53) (mc:=@f53_c) (by intros;simp only [f53_m,f53_c,nn]) (locs:=[2,3,4,5])
def f55_s:FS ((List TCongr)×Int×TCongr) ((List TCongr)) where
 sk:=⟨(.cons (.lit cCongr) (.cons (.int .i64) (.cons (.agg kC) .nil))),[],0⟩
 a:=fun u=>(u.1.1,u.1.2.1,(q3 u.1.2.2.1))
 n:=fun a=>((a.1,(a.2.1,((w3 a.2.2),()))),())
 o:=fun Z a r K=>K (.lit cCongr r) ⟨[],0⟩
def f55_c {X:Type} (a:(List TCongr)×Int×TCongr) (K:(List TCongr)->Option X):Option X:=
 ask (decide ((List.length a.1) * 24<=70368744177664)&&decide ((List.length a.1)<9223372036854775808)) (ask (V.inRange a.2.1 (List.length a.1)) (K (List.set a.1 (Int.toNat a.2.1) a.2.2)))
def f55_m (a:(List TCongr)×Int×TCongr):Option ((List TCongr)):=f55_c a some
def f55_sp:Spec:=f55_s.sp f55_m
noncomputable def f55_e:Env:=⟨fun k=>[].contains k,callsL [],fun X k s K=>none⟩
theorem f55_ok:OK (1) 55 (f55_s.sp f55_m):=
 fO (d:=0) (env:=f55_e) (callsL_sim cn) (fn:=Tryz.f55) (mc:=@f55_c) (by intros;simp only [f55_m,f55_c,nn]) (locs:=[5]) (sh:=(.lit cCongr)) (fz:=true)
def f112_s:FS (Int) (Int) where
 sk:=⟨(.cons (.int .i64) .nil),[],0⟩
 a:=fun u=>u.1.1
 n:=fun a=>((a,()),())
 o:=fun Z a r K=>K (.int .i64 r) ⟨[],0⟩
def f112_c {X:Type} (a:Int) (K:Int->Option X):Option X:=
 cond (decide ((wi64 (a-(14:Int)))=(0:Int)))
 (K 15)
 (cond (decide ((wi64 (a-(14:Int)))=(1:Int)))
 (K 14)
 (cond (decide ((wi64 (a-(14:Int)))=(2:Int)))
 (K 19)
 (cond (decide ((wi64 (a-(14:Int)))=(3:Int)))
 (K 18)
 (cond (decide ((wi64 (a-(14:Int)))=(4:Int)))
 (K 17)
 (cond (decide ((wi64 (a-(14:Int)))=(5:Int)))
 (K 16)
 (none))))))
def f112_m (a:Int):Option (Int):=f112_c a some
def f112_sp:Spec:=f112_s.sp f112_m
noncomputable def f112_e:Env:=⟨fun k=>[].contains k,callsL [],fun X k s K=>none⟩
theorem f112_ok:OK (1) 112 (f112_s.sp f112_m):=
 fO (d:=0) (env:=f112_e) (callsL_sim cn) (fn:=Tryz.f112) (mc:=@f112_c) (by intros;simp only [f112_m,f112_c,nn]) (locs:=[3])
def f153_s:FS (Int×Int×Int) (Bool) where
 sk:=⟨(.cons (.int .i64) kI),[],0⟩
 a:=fun u=>(u.1.1,u.1.2.1,u.1.2.2.1)
 n:=fun a=>((w3 a),())
 o:=fun Z a r K=>K (.bool r) ⟨[],0⟩
def f153_c {X:Type} (a:Int×Int×Int) (K:Bool->Option X):Option X:=
 cond (decide (a.1=(14:Int)))
 (K (decide (a.2.1=a.2.2)))
 (cond (decide (a.1=(15:Int)))
 (K (!(decide (a.2.1=a.2.2))))
 (cond (decide (a.1=(16:Int)))
 (K (decide (a.2.1<a.2.2)))
 (cond (decide (a.1=(17:Int)))
 (K (decide (a.2.1<=a.2.2)))
 (cond (decide (a.1=(18:Int)))
 (K (decide (a.2.2<a.2.1)))
 (K (decide (a.2.2<=a.2.1)))))))
def f153_m (a:Int×Int×Int):Option (Bool):=f153_c a some
def f153_sp:Spec:=f153_s.sp f153_m
noncomputable def f153_e:Env:=⟨fun k=>[].contains k,callsL [],fun X k s K=>none⟩
theorem f153_ok:OK (1) 153 (f153_s.sp f153_m):=
 fO (d:=0) (env:=f153_e) (callsL_sim cn) (fn:=Tryz.f153) (mc:=@f153_c) (by intros;simp only [f153_m,f153_c,nn])
def f65_s:FS (TCongr×Int) (Bool) where
 sk:=⟨(.cons (.agg kC) (.cons (.int .i64) .nil)),[],0⟩
 a:=fun u=>((q3 u.1.1),u.1.2.1)
 n:=fun a=>(((w3 a.1),(a.2,())),())
 o:=fun Z a r K=>K (.bool r) ⟨[],0⟩
def f65_c {X:Type} (a:TCongr×Int) (K:Bool->Option X):Option X:=
 cond a.1.1
 (K false)
 (cond (decide (a.2<(-2147483648:Int)))
 (K false)
 (cond (decide ((2147483647:Int)<a.2))
 (K false)
 (cond (decide (a.1.2.1=(0:Int)))
 (K (decide (a.2=a.1.2.2)))
 (cond (decide (a.1.2.1=(0:Int)))
 (none)
 (K (decide ((Int.tmod (wi64 (a.2-a.1.2.2)) a.1.2.1)=(0:Int))))))))
def f65_m (a:TCongr×Int):Option (Bool):=f65_c a some
def f65_sp:Spec:=f65_s.sp f65_m
noncomputable def f65_e:Env:=⟨fun k=>[].contains k,callsL [],fun X k s K=>none⟩
theorem f65_ok:OK (1) 65 (f65_s.sp f65_m):=
 fO (d:=0) (env:=f65_e) (callsL_sim cn) (fn:=Tryz.f65) (mc:=@f65_c) (by intros;simp only [f65_m,f65_c,nn]) (locs:=[2])
def f155_s:FS (Int×Int) (Int) where
 sk:=⟨(.cons (.int .u64) (.cons (.int .u64) .nil)),[],0⟩
 a:=fun u=>(u.1.1,u.1.2.1)
 n:=fun a=>((a.1,(a.2,())),())
 o:=fun Z a r K=>K (.int .u64 r) ⟨[],0⟩
def f155_l3:LD (Int) (Int×Int×Int×Int) (Int) where
 sk:=⟨[(1,.v (.int .u64)),(5,.v (.int .i64)),(6,.v (.int .i64)),(7,.v (.int .i64)),(8,.v (.int .i64))],[],[],0,0⟩
 p:=fun u=>u.1.1
 t:=fun u=>(u.1.2.1,u.1.2.2.1,u.1.2.2.2.1,u.1.2.2.2.2.1)
 n:=fun p t=>((p,(w4 t)),((),()))
 st:=fun Y p t ki ke=>cond (!(decide (t.2.1=(0:Int))))
  (cond (decide (t.2.1=(0:Int)))
  (none)
  (ki (t.2.1,(wi64 (t.1-(wi64 ((wi64 (Int.tdiv t.1 t.2.1)) * t.2.1)))),t.2.2.2,(wi64 (t.2.2.1-(wi64 ((wi64 (Int.tdiv t.1 t.2.1)) * t.2.2.2)))))))
  (ke (t.2.2.1))
 o:=fun Z p e K=>K (.exit 0) ⟨[(1,.v (.int .u64 p)),(7,.v (.int .i64 e))],[],⟨[],0⟩,0⟩
 pol:=⟨[1,5,6,7,8],[],[],[]⟩
 pe:=[(.exit 0,⟨[1,7],[],[],[]⟩)]
def f155_c {X:Type} (a:Int×Int) (K:Int->Option X):Option X:=
 (loopAll (f155_l3.m a.2) ((wi64 a.2),(wi64 a.1),0,1)).bind fun e1=>
 cond (decide (e1<(0:Int)))
 (K (wu64 (wi64 (e1+(wi64 a.2)))))
 (K (wu64 e1))
def f155_m (a:Int×Int):Option (Int):=f155_c a some
def f155_sp:Spec:=f155_s.sp f155_m
noncomputable def f155_e:Env:=⟨fun k=>[].contains k,callsL [],fun X k s K=>if k=3 then f155_l3.q X s K else none⟩
noncomputable def f155_l3_c:Code:=subAt [1,1,1,0,0,0] (bodyOf Tryz.f155)
theorem f155_l3_ok (hc:SimCall C f155_e.call):LoopSim f155_e.loop (vc par C true [] 39) (.loop f155_l3_c):=
 lO hc f155_l3 (by intros;simp only [f155_l3,LD.m,nn])
theorem f155_ok:OK (1) 155 (f155_s.sp f155_m):=
 fO (d:=0) (env:=f155_e) (callsL_sim cn) (fn:=Tryz.f155) (mc:=@f155_c) (by intros;simp only [f155_m,f155_c,nn]) (hl:=fun hc=>(lp_of (by kernel_rfl) (lp_cons (f155_l3_ok hc) lp_nil)))
def f154_s:FS (Int×Int×Int) (Int) where
 sk:=⟨(.cons (.int .u64) (.cons (.int .u64) (.cons (.int .u64) .nil))),[],0⟩
 a:=fun u=>(u.1.1,u.1.2.1,u.1.2.2.1)
 n:=fun a=>((w3 a),())
 o:=fun Z a r K=>K (.int .u64 r) ⟨[],0⟩
def f154_c {X:Type} (a:Int×Int×Int) (K:Int->Option X):Option X:=
 cond (decide (a.2.2=(0:Int)))
 (none)
 (K (Int.tmod (wu64 (a.1 * a.2.1)) a.2.2))
def f154_m (a:Int×Int×Int):Option (Int):=f154_c a some
def f154_sp:Spec:=f154_s.sp f154_m
noncomputable def f154_e:Env:=⟨fun k=>[].contains k,callsL [],fun X k s K=>none⟩
theorem f154_ok:OK (1) 154 (f154_s.sp f154_m):=
 fO (d:=0) (env:=f154_e) (callsL_sim cn) (fn:=Tryz.f154) (mc:=@f154_c) (by intros;simp only [f154_m,f154_c,nn])
def f114_s:FS (TCongr×TCongr) (TCongr) where
 sk:=⟨(.cons (.agg kC) (.cons (.agg kC) .nil)),[],0⟩
 a:=fun u=>((q3 u.1.1),(q3 u.1.2.1))
 n:=fun a=>(((w3 a.1),((w3 a.2),())),())
 o:=fun Z a r K=>K (.agg [.bool r.1,.int .i64 r.2.1,.int .i64 r.2.2]) ⟨[],0⟩
def f114_r1:PD ((TCongr×TCongr)×Bool×Int×Int) (Bool) where
 sk:=⟨[(2,.loc 0 0),(3,.loc 1 0),(4,.loc 2 0)],[kC,kC,kC],[],0,0⟩
 p:=fun u=>(((q3 u.2.1.1),(q3 u.2.1.2.1)),u.2.1.2.2.1.1,u.2.1.2.2.1.2.1,u.2.1.2.2.1.2.2.1)
 n:=fun p=>((),(((w3 p.1.1),((w3 p.1.2),((w3 p.2),()))),()))
 st:=fun Y p ke=>cond p.1.1.1
  (ke (true))
  (ke (p.1.2.1))
 o:=fun Z p e K=>K .normal ⟨[(2,.loc 0 0),(3,.loc 1 0),(4,.loc 2 0),(15,.v (.bool e))],[[.bool p.1.1.1,.int .i64 p.1.1.2.1,.int .i64 p.1.1.2.2],[.bool p.1.2.1,.int .i64 p.1.2.2.1,.int .i64 p.1.2.2.2],[.bool p.2.1,.int .i64 p.2.2.1,.int .i64 p.2.2.2]],⟨[],0⟩,0⟩
 pol:=⟨[2,3,4],[],[],[]⟩
 pe:=[(.normal,⟨[2,3,4,15],[],[],[]⟩)]
def f114_c4:PD (Bool×(TCongr×TCongr)×Bool×Int×Int) (Bool×Int×Int×Bool×Int×Int) where
 sk:=⟨[(2,.loc 0 0),(3,.loc 1 0),(4,.loc 2 0),(21,.v .bool)],[kC,kC,kC],[],0,0⟩
 p:=fun u=>(u.1.1,((q3 u.2.1.1),(q3 u.2.1.2.1)),u.2.1.2.2.1.1,u.2.1.2.2.1.2.1,u.2.1.2.2.1.2.2.1)
 n:=fun p=>((p.1,()),(((w3 p.2.1.1),((w3 p.2.1.2),((w3 p.2.2),()))),()))
 st:=fun Y p ke=>cond p.1
  (ke ((p.2.1.2.1,p.2.1.2.2.1,p.2.1.2.2.2,p.2.1.1.1,p.2.1.1.2.1,p.2.1.1.2.2)))
  (ke ((p.2.1.1.1,p.2.1.1.2.1,p.2.1.1.2.2,p.2.1.2.1,p.2.1.2.2.1,p.2.1.2.2.2)))
 o:=fun Z p e K=>K .normal ⟨[(2,.loc 0 0),(3,.loc 1 0),(4,.loc 2 0)],[[.bool e.1,.int .i64 e.2.1,.int .i64 e.2.2.1],[.bool e.2.2.2.1,.int .i64 e.2.2.2.2.1,.int .i64 e.2.2.2.2.2],[.bool p.2.2.1,.int .i64 p.2.2.2.1,.int .i64 p.2.2.2.2]],⟨[],0⟩,0⟩
 pol:=⟨[2,3,4,21],[],[],[]⟩
 pe:=[(.normal,⟨[2,3,4],[],[],[]⟩)]
def f114_c16:PD (Int×Int×Int×Int×Bool×(Bool×(Int×(Int×TCongr)))×Bool×Int×Int) (Int) where
 sk:=⟨[(2,.loc 0 0),(3,.loc 1 0),(4,.loc 2 0),(5,.v (.int .u64)),(6,.v (.int .u64)),(7,.v (.int .u64)),(8,.v (.int .i64)),(74,.v .bool)],[kC,kC,kC],[],0,0⟩
 p:=fun u=>(u.1.1,u.1.2.1,u.1.2.2.1,u.1.2.2.2.1,u.1.2.2.2.2.1,(u.2.1.1.1,(u.2.1.1.2.1,(u.2.1.1.2.2.1,(q3 u.2.1.2.1)))),u.2.1.2.2.1.1,u.2.1.2.2.1.2.1,u.2.1.2.2.1.2.2.1)
 n:=fun p=>((p.1,(p.2.1,(p.2.2.1,(p.2.2.2.1,(p.2.2.2.2.1,()))))),(((p.2.2.2.2.2.1.1,(p.2.2.2.2.2.1.2.1,(p.2.2.2.2.2.1.2.2.1,()))),((w3 p.2.2.2.2.2.1.2.2.2),((w3 p.2.2.2.2.2.2),()))),()))
 st:=fun Y p ke=>cond p.2.2.2.2.1
  (ke ((wi64 (p.2.2.2.1+(wi64 p.2.1)))))
  (ke (p.2.2.2.1))
 o:=fun Z p e K=>K .normal ⟨[(2,.loc 0 0),(3,.loc 1 0),(4,.loc 2 0),(5,.v (.int .u64 p.1)),(6,.v (.int .u64 p.2.1)),(7,.v (.int .u64 p.2.2.1)),(8,.v (.int .i64 e))],[[.bool p.2.2.2.2.2.1.1,.int .i64 p.2.2.2.2.2.1.2.1,.int .i64 p.2.2.2.2.2.1.2.2.1],[.bool p.2.2.2.2.2.1.2.2.2.1,.int .i64 p.2.2.2.2.2.1.2.2.2.2.1,.int .i64 p.2.2.2.2.2.1.2.2.2.2.2],[.bool p.2.2.2.2.2.2.1,.int .i64 p.2.2.2.2.2.2.2.1,.int .i64 p.2.2.2.2.2.2.2.2]],⟨[],0⟩,0⟩
 pol:=⟨[2,3,4,5,6,7,8,74],[],[],[]⟩
 pe:=[(.normal,⟨[2,3,4,5,6,7,8],[],[],[]⟩)]
def f114_c19:PD (Int×Int×Int×Int×Int×Bool×(Bool×(Int×(Int×TCongr)))×Bool×Int×Int) (Int) where
 sk:=⟨[(2,.loc 0 0),(3,.loc 1 0),(4,.loc 2 0),(5,.v (.int .u64)),(6,.v (.int .u64)),(7,.v (.int .u64)),(8,.v (.int .i64)),(9,.v (.int .u64)),(80,.v .bool)],[kC,kC,kC],[],0,0⟩
 p:=fun u=>(u.1.1,u.1.2.1,u.1.2.2.1,u.1.2.2.2.1,u.1.2.2.2.2.1,u.1.2.2.2.2.2.1,(u.2.1.1.1,(u.2.1.1.2.1,(u.2.1.1.2.2.1,(q3 u.2.1.2.1)))),u.2.1.2.2.1.1,u.2.1.2.2.1.2.1,u.2.1.2.2.1.2.2.1)
 n:=fun p=>((p.1,(p.2.1,(p.2.2.1,(p.2.2.2.1,(p.2.2.2.2.1,(p.2.2.2.2.2.1,())))))),(((p.2.2.2.2.2.2.1.1,(p.2.2.2.2.2.2.1.2.1,(p.2.2.2.2.2.2.1.2.2.1,()))),((w3 p.2.2.2.2.2.2.1.2.2.2),((w3 p.2.2.2.2.2.2.2),()))),()))
 st:=fun Y p ke=>cond p.2.2.2.2.2.1
  ((f155_m (p.2.2.1,p.2.1)).bind fun r1=>
  (f154_m ((wu64 p.2.2.2.1),r1,p.2.1)).bind fun r2=>
  ke (r2))
  (ke (p.2.2.2.2.1))
 o:=fun Z p e K=>K .normal ⟨[(2,.loc 0 0),(3,.loc 1 0),(4,.loc 2 0),(5,.v (.int .u64 p.1)),(9,.v (.int .u64 e))],[[.bool p.2.2.2.2.2.2.1.1,.int .i64 p.2.2.2.2.2.2.1.2.1,.int .i64 p.2.2.2.2.2.2.1.2.2.1],[.bool p.2.2.2.2.2.2.1.2.2.2.1,.int .i64 p.2.2.2.2.2.2.1.2.2.2.2.1,.int .i64 p.2.2.2.2.2.2.1.2.2.2.2.2],[.bool p.2.2.2.2.2.2.2.1,.int .i64 p.2.2.2.2.2.2.2.2.1,.int .i64 p.2.2.2.2.2.2.2.2.2]],⟨[],0⟩,0⟩
 pol:=⟨[2,3,4,5,6,7,8,9,80],[],[],[]⟩
 pe:=[(.normal,⟨[2,3,4,5,9],[],[],[]⟩)]
def f114_c {X:Type} (a:TCongr×TCongr) (K:TCongr->Option X):Option X:=
 (f114_r1.m (a,false,0,0)).bind fun e1=>
 cond e1
 (K (true,(0,0)))
 ((f114_c4.m ((decide (a.1.2.1<a.2.2.1)),a,false,0,0)).bind fun e2=>
 cond (decide (e2.2.2.2.2.1=(0:Int)))
 ((f65_m ((e2.1,(e2.2.1,e2.2.2.1)),e2.2.2.2.2.2)).bind fun r3=>
 cond r3
 (K e2.2.2.2)
 (K (true,(0,0))))
 ((f111_m e2.2.1).bind fun r4=>
 (f111_m e2.2.2.2.2.1).bind fun r5=>
 (f110_m (r4,r5)).bind fun r6=>
 (f111_m (wi64 (e2.2.2.1-e2.2.2.2.2.2))).bind fun r7=>
 cond (decide (r6=(0:Int)))
 (none)
 (cond (!(decide ((Int.tmod r7 r6)=(0:Int))))
 (K (true,(0,0)))
 ((f111_m e2.2.2.2.2.1).bind fun r8=>
 cond (decide (r6=(0:Int)))
 (none)
 ((f111_m e2.2.1).bind fun r9=>
 cond (decide (r6=(0:Int)))
 (none)
 (cond (decide ((wu64 (Int.tdiv r8 r6))=(0:Int)))
 (none)
 (cond (decide ((wi64 r6)=(0:Int)))
 (none)
 (cond (decide ((wi64 (wu64 (Int.tdiv r8 r6)))=(0:Int)))
 (none)
 ((f114_c16.m (r6,(wu64 (Int.tdiv r8 r6)),(Int.tmod (wu64 (Int.tdiv r9 r6)) (wu64 (Int.tdiv r8 r6))),(Int.tmod (wi64 (Int.tdiv (wi64 (e2.2.2.2.2.2-e2.2.2.1)) (wi64 r6))) (wi64 (wu64 (Int.tdiv r8 r6)))),(decide ((Int.tmod (wi64 (Int.tdiv (wi64 (e2.2.2.2.2.2-e2.2.2.1)) (wi64 r6))) (wi64 (wu64 (Int.tdiv r8 r6))))<(0:Int))),e2,false,0,0)).bind fun e10=>
 (f114_c19.m (r6,(wu64 (Int.tdiv r8 r6)),(Int.tmod (wu64 (Int.tdiv r9 r6)) (wu64 (Int.tdiv r8 r6))),e10,0,(decide ((1:Int)<(wu64 (Int.tdiv r8 r6)))),e2,false,0,0)).bind fun e11=>
 (f111_m e2.2.1).bind fun r12=>
 cond (decide (r6=(0:Int)))
 (none)
 ((f111_m e2.2.2.2.2.1).bind fun r13=>
 (f111_m e2.2.2.1).bind fun r14=>
 (f111_m e2.2.1).bind fun r15=>
 (f123_m ((wu64 ((wu64 (Int.tdiv r12 r6)) * r13)),(wu64 (r14+(wu64 (r15 * e11)))),false)).bind fun r16=>
 K r16))))))))))
def f114_m (a:TCongr×TCongr):Option (TCongr):=f114_c a some
def f114_sp:Spec:=f114_s.sp f114_m
noncomputable def f114_e:Env:=⟨fun k=>[1000004,1000016,1000019,2000001].contains k,callsL [(105,f105_sp),(65,f65_sp),(111,f111_sp),(110,f110_sp),(155,f155_sp),(154,f154_sp),(123,f123_sp)],fun X k s K=>if k=2000001 then f114_r1.q X s K else if k=1000004 then f114_c4.q X s K else if k=1000016 then f114_c16.q X s K else if k=1000019 then f114_c19.q X s K else none⟩
noncomputable def f114_r1_c:Code:=subAt [1,0,0] (bodyOf Tryz.f114)
theorem f114_r1_ok (hc:SimCall C f114_e.call):LoopSim f114_e.loop (vc par C true [2,3,4] 107) f114_r1_c:=
 pO (env0:=⟨offJ f114_e.join 2000001,f114_e.call,f114_e.loop⟩) hc rfl f114_r1 (by intros;simp only [f114_r1,PD.m,nn])
noncomputable def f114_c4_c:Code:=subAt [1,1,0,1] (bodyOf Tryz.f114)
theorem f114_c4_ok (hc:SimCall C f114_e.call):LoopSim f114_e.loop (vc par C true [2,3,4] 107) f114_c4_c:=
 pO (env0:=⟨offJ f114_e.join 1000004,f114_e.call,f114_e.loop⟩) hc rfl f114_c4 (by intros;simp only [f114_c4,PD.m,nn])
noncomputable def f114_c16_c:Code:=subAt [1,1,1,1,1,1,1,1,1,0,1] (bodyOf Tryz.f114)
theorem f114_c16_ok (hc:SimCall C f114_e.call):LoopSim f114_e.loop (vc par C true [2,3,4] 107) f114_c16_c:=
 pO (env0:=⟨offJ f114_e.join 1000016,f114_e.call,f114_e.loop⟩) hc rfl f114_c16 (by intros;simp only [f114_c16,PD.m,nn])
noncomputable def f114_c19_c:Code:=subAt [1,1,1,1,1,1,1,1,1,1,1,0,1] (bodyOf Tryz.f114)
theorem f114_c19_ok (hc:SimCall C f114_e.call):LoopSim f114_e.loop (vc par C true [2,3,4] 107) f114_c19_c:=
 pO (env0:=⟨offJ f114_e.join 1000019,f114_e.call,f114_e.loop⟩) hc rfl f114_c19 (by intros;simp only [f114_c19,PD.m,nn])
theorem f114_ok:OK (3) 114 (f114_s.sp f114_m):=
 fO (d:=2) (env:=f114_e) (callsL_sim (cc f105_ok (cc f65_ok (cc f111_ok (cc f110_ok (cc f155_ok (cc f154_ok (cc f123_ok cn)))))))) (fn:=Tryz.f114) (mc:=@f114_c) (by intros;simp only [f114_m,f114_c,nn]) (locs:=[2,3,4]) (hl:=fun hc=>(lp_of (by kernel_rfl) (lp_cons (f114_r1_ok hc) (lp_cons (f114_c4_ok hc) (lp_cons (f114_c16_ok hc) (lp_cons (f114_c19_ok hc) lp_nil))))))
def f113_s:FS (Int×TCongr×TCongr) (TCongr×TCongr) where
 sk:=⟨(.cons (.int .i64) (.cons (.agg kC) (.cons (.agg kC) .nil))),[],0⟩
 a:=fun u=>(u.1.1,(q3 u.1.2.1),(q3 u.1.2.2.1))
 n:=fun a=>((a.1,((w3 a.2.1),((w3 a.2.2),()))),())
 o:=fun Z a r K=>K (.tup [.agg [.bool r.1.1,.int .i64 r.1.2.1,.int .i64 r.1.2.2],.agg [.bool r.2.1,.int .i64 r.2.2.1,.int .i64 r.2.2.2]]) ⟨[],0⟩
def f113_c {X:Type} (a:Int×TCongr×TCongr) (K:(TCongr×TCongr)->Option X):Option X:=
 cond (decide (a.1<(14:Int)))
 (K (a.2.1,a.2.2))
 (cond (decide ((19:Int)<a.1))
 (K (a.2.1,a.2.2))
 (cond a.2.1.1
 (K ((true,(0,0)),(true,(0,0))))
 (cond a.2.2.1
 (K ((true,(0,0)),(true,(0,0))))
 (cond (decide (a.2.1.2.1=(0:Int)))
 (cond (decide (a.2.2.2.1=(0:Int)))
 ((f153_m (a.1,a.2.1.2.2,a.2.2.2.2)).bind fun r1=>
 cond (!r1)
 (K ((true,(0,0)),(true,(0,0))))
 (cond (decide (a.1=(14:Int)))
 ((f114_m (a.2.1,a.2.2)).bind fun r2=>
 K (r2,r2))
 (K (a.2.1,a.2.2))))
 (cond (decide (a.1=(14:Int)))
 ((f114_m (a.2.1,a.2.2)).bind fun r3=>
 K (r3,r3))
 (K (a.2.1,a.2.2))))
 (cond (decide (a.1=(14:Int)))
 ((f114_m (a.2.1,a.2.2)).bind fun r4=>
 K (r4,r4))
 (K (a.2.1,a.2.2)))))))
def f113_m (a:Int×TCongr×TCongr):Option (TCongr×TCongr):=f113_c a some
def f113_sp:Spec:=f113_s.sp f113_m
noncomputable def f113_e:Env:=⟨fun k=>[].contains k,callsL [(105,f105_sp),(153,f153_sp),(114,f114_sp)],fun X k s K=>none⟩
theorem f113_ok:OK (4) 113 (f113_s.sp f113_m):=
 fO (d:=3) (env:=f113_e) (callsL_sim (cc f105_ok (cc f153_ok (cc f114_ok cn)))) (fn:=Tryz.f113) (mc:=@f113_c) (by intros;simp only [f113_m,f113_c,nn]) (locs:=[4,5,6,7,8])
def f57_s:FS (TGraph×TMods×(List TCongr)×TInstr×Int) (TMods) where
 sk:=⟨(.cons (.agg kG) (.cons (.agg kM) (.cons (.lit cCongr) (.cons (.agg kN) (.cons (.int .i64) .nil))))),[],0⟩
 a:=fun u=>((q8 u.1.1),(q3 u.1.2.1),u.1.2.2.1,(q8 u.1.2.2.2.1),u.1.2.2.2.2.1)
 n:=fun a=>(((w8 a.1),((w3 a.2.1),(a.2.2.1,((w8 a.2.2.2.1),(a.2.2.2.2,()))))),())
 o:=fun Z a r K=>K (.agg [.bool r.1,.lit cCongr r.2.1,.lit cCongr r.2.2]) ⟨[],0⟩
def f57_c3:PD ((List TCongr)×Int×Bool×TGraph×TMods×TInstr×Bool) (Int) where
 sk:=⟨[(2,.v (.lit cCongr)),(5,.loc 0 0),(6,.loc 1 0),(8,.loc 2 0),(10,.loc 3 0),(11,.v (.int .i64)),(18,.v .bool)],[kG,kM,kN,(.cons .bool (.cons .nils (.cons .nils .nil)))],[],0,0⟩
 p:=fun u=>(u.1.1,u.1.2.1,u.1.2.2.1,(q8 u.2.1.1),(q3 u.2.1.2.1),(q8 u.2.1.2.2.1),u.2.1.2.2.2.1.1)
 n:=fun p=>((p.1,(p.2.1,(p.2.2.1,()))),(((w8 p.2.2.2.1),((w3 p.2.2.2.2.1),((w8 p.2.2.2.2.2.1),((p.2.2.2.2.2.2,((),((),()))),())))),()))
 st:=fun Y p ke=>cond p.2.2.1
  ((f112_m p.2.1).bind fun r1=>
  ke (r1))
  (ke (p.2.1))
 o:=fun Z p e K=>K .normal ⟨[(2,.v (.lit cCongr p.1)),(5,.loc 0 0),(6,.loc 1 0),(8,.loc 2 0),(10,.loc 3 0),(11,.v (.int .i64 e))],[[.lit cInstr p.2.2.2.1.1,.int .i64 p.2.2.2.1.2.1,.int .i64 p.2.2.2.1.2.2.1,.int .i64 p.2.2.2.1.2.2.2.1,.lit cArray p.2.2.2.1.2.2.2.2.1,.lit cScalar p.2.2.2.1.2.2.2.2.2.1,.lit cArray p.2.2.2.1.2.2.2.2.2.2.1,.lit cItv p.2.2.2.1.2.2.2.2.2.2.2],[.bool p.2.2.2.2.1.1,.lit cCongr p.2.2.2.2.1.2.1,.lit cCongr p.2.2.2.2.1.2.2],[.int .i64 p.2.2.2.2.2.1.1,.int .i64 p.2.2.2.2.2.1.2.1,.int .i64 p.2.2.2.2.2.1.2.2.1,.int .i64 p.2.2.2.2.2.1.2.2.2.1,.int .i64 p.2.2.2.2.2.1.2.2.2.2.1,.int .i64 p.2.2.2.2.2.1.2.2.2.2.2.1,.int .i64 p.2.2.2.2.2.1.2.2.2.2.2.2.1,.int .i64 p.2.2.2.2.2.1.2.2.2.2.2.2.2],[.bool p.2.2.2.2.2.2,.nils,.nils]],⟨[],0⟩,0⟩
 pol:=⟨[2,5,6,8,10,11,18],[],[],[]⟩
 pe:=[(.normal,⟨[2,5,6,8,10,11],[],[],[]⟩)]
def f57_r5:PD (TGraph×TMods×TInstr×Bool×(TCongr×TCongr)) (Bool) where
 sk:=⟨[(5,.loc 0 0),(6,.loc 1 0),(8,.loc 2 0),(10,.loc 3 0),(12,.loc 4 0),(13,.loc 5 0)],[kG,kM,kN,(.cons .bool (.cons .nils (.cons .nils .nil))),kC,kC],[],0,0⟩
 p:=fun u=>((q8 u.2.1.1),(q3 u.2.1.2.1),(q8 u.2.1.2.2.1),u.2.1.2.2.2.1.1,((q3 u.2.1.2.2.2.2.1),(q3 u.2.1.2.2.2.2.2.1)))
 n:=fun p=>((),(((w8 p.1),((w3 p.2.1),((w8 p.2.2.1),((p.2.2.2.1,((),((),()))),((w3 p.2.2.2.2.1),((w3 p.2.2.2.2.2),())))))),()))
 st:=fun Y p ke=>cond p.2.2.2.2.1.1
  (ke (true))
  (ke (p.2.2.2.2.2.1))
 o:=fun Z p e K=>K .normal ⟨[(5,.loc 0 0),(6,.loc 1 0),(8,.loc 2 0),(10,.loc 3 0),(12,.loc 4 0),(13,.loc 5 0),(41,.v (.bool e))],[[.lit cInstr p.1.1,.int .i64 p.1.2.1,.int .i64 p.1.2.2.1,.int .i64 p.1.2.2.2.1,.lit cArray p.1.2.2.2.2.1,.lit cScalar p.1.2.2.2.2.2.1,.lit cArray p.1.2.2.2.2.2.2.1,.lit cItv p.1.2.2.2.2.2.2.2],[.bool p.2.1.1,.lit cCongr p.2.1.2.1,.lit cCongr p.2.1.2.2],[.int .i64 p.2.2.1.1,.int .i64 p.2.2.1.2.1,.int .i64 p.2.2.1.2.2.1,.int .i64 p.2.2.1.2.2.2.1,.int .i64 p.2.2.1.2.2.2.2.1,.int .i64 p.2.2.1.2.2.2.2.2.1,.int .i64 p.2.2.1.2.2.2.2.2.2.1,.int .i64 p.2.2.1.2.2.2.2.2.2.2],[.bool p.2.2.2.1,.nils,.nils],[.bool p.2.2.2.2.1.1,.int .i64 p.2.2.2.2.1.2.1,.int .i64 p.2.2.2.2.1.2.2],[.bool p.2.2.2.2.2.1,.int .i64 p.2.2.2.2.2.2.1,.int .i64 p.2.2.2.2.2.2.2]],⟨[],0⟩,0⟩
 pol:=⟨[5,6,8,10,12,13],[],[],[]⟩
 pe:=[(.normal,⟨[5,6,8,10,12,13,41],[],[],[]⟩)]
def f57_c9:PD (Int×Bool×TMods×TInstr×Bool×(TCongr×TCongr)) ((List TCongr)) where
 sk:=⟨[(6,.loc 0 0),(8,.loc 1 0),(10,.loc 2 0),(12,.loc 3 0),(13,.loc 4 0),(14,.v (.int .i64)),(49,.v .bool)],[kM,kN,(.cons .bool (.cons .nils (.cons .nils .nil))),kC,kC],[],0,0⟩
 p:=fun u=>(u.1.1,u.1.2.1,(q3 u.2.1.1),(q8 u.2.1.2.1),u.2.1.2.2.1.1,((q3 u.2.1.2.2.2.1),(q3 u.2.1.2.2.2.2.1)))
 n:=fun p=>((p.1,(p.2.1,())),(((w3 p.2.2.1),((w8 p.2.2.2.1),((p.2.2.2.2.1,((),((),()))),((w3 p.2.2.2.2.2.1),((w3 p.2.2.2.2.2.2),()))))),()))
 st:=fun Y p ke=>cond p.2.1
  (ask (V.inRange p.2.2.2.1.2.2.1 (List.length p.2.2.1.2.1)) ((f114_m ((gx p.2.2.1.2.1 (Int.toNat p.2.2.2.1.2.2.1) dCongr),p.2.2.2.2.2.1)).bind fun r1=>
  (f55_m (p.2.2.1.2.1,p.2.2.2.1.2.2.1,r1)).bind fun r2=>
  ke (r2)))
  (ke (p.2.2.1.2.1))
 o:=fun Z p e K=>K .normal ⟨[(6,.loc 0 0),(8,.loc 1 0),(10,.loc 2 0),(13,.loc 3 0),(14,.v (.int .i64 p.1))],[[.bool p.2.2.1.1,.lit cCongr e,.lit cCongr p.2.2.1.2.2],[.int .i64 p.2.2.2.1.1,.int .i64 p.2.2.2.1.2.1,.int .i64 p.2.2.2.1.2.2.1,.int .i64 p.2.2.2.1.2.2.2.1,.int .i64 p.2.2.2.1.2.2.2.2.1,.int .i64 p.2.2.2.1.2.2.2.2.2.1,.int .i64 p.2.2.2.1.2.2.2.2.2.2.1,.int .i64 p.2.2.2.1.2.2.2.2.2.2.2],[.bool p.2.2.2.2.1,.nils,.nils],[.bool p.2.2.2.2.2.2.1,.int .i64 p.2.2.2.2.2.2.2.1,.int .i64 p.2.2.2.2.2.2.2.2]],⟨[],0⟩,0⟩
 pol:=⟨[6,8,10,12,13,14,49],[],[],[]⟩
 pe:=[(.normal,⟨[6,8,10,13,14],[],[],[]⟩)]
def f57_c11:PD (Int×Bool×Bool×(List TCongr)×(List TCongr)×TInstr×Bool×TCongr) ((List TCongr)) where
 sk:=⟨[(6,.loc 0 0),(8,.loc 1 0),(10,.loc 2 0),(13,.loc 3 0),(14,.v (.int .i64)),(67,.v .bool)],[kM,kN,(.cons .bool (.cons .nils (.cons .nils .nil))),kC],[],0,0⟩
 p:=fun u=>(u.1.1,u.1.2.1,u.2.1.1.1,u.2.1.1.2.1,u.2.1.1.2.2.1,(q8 u.2.1.2.1),u.2.1.2.2.1.1,(q3 u.2.1.2.2.2.1))
 n:=fun p=>((p.1,(p.2.1,())),(((p.2.2.1,(p.2.2.2.1,(p.2.2.2.2.1,()))),((w8 p.2.2.2.2.2.1),((p.2.2.2.2.2.2.1,((),((),()))),((w3 p.2.2.2.2.2.2.2),())))),()))
 st:=fun Y p ke=>cond p.2.1
  (ask (V.inRange p.2.2.2.2.2.1.2.2.2.1 (List.length p.2.2.2.1)) ((f114_m ((gx p.2.2.2.1 (Int.toNat p.2.2.2.2.2.1.2.2.2.1) dCongr),p.2.2.2.2.2.2.2)).bind fun r1=>
  (f55_m (p.2.2.2.1,p.2.2.2.2.2.1.2.2.2.1,r1)).bind fun r2=>
  ke (r2)))
  (ke (p.2.2.2.1))
 o:=fun Z p e K=>K .normal ⟨[(6,.loc 0 0),(8,.loc 1 0),(10,.loc 2 0),(14,.v (.int .i64 p.1))],[[.bool p.2.2.1,.lit cCongr e,.lit cCongr p.2.2.2.2.1],[.int .i64 p.2.2.2.2.2.1.1,.int .i64 p.2.2.2.2.2.1.2.1,.int .i64 p.2.2.2.2.2.1.2.2.1,.int .i64 p.2.2.2.2.2.1.2.2.2.1,.int .i64 p.2.2.2.2.2.1.2.2.2.2.1,.int .i64 p.2.2.2.2.2.1.2.2.2.2.2.1,.int .i64 p.2.2.2.2.2.1.2.2.2.2.2.2.1,.int .i64 p.2.2.2.2.2.1.2.2.2.2.2.2.2],[.bool p.2.2.2.2.2.2.1,.nils,.nils]],⟨[],0⟩,0⟩
 pol:=⟨[6,8,10,13,14,67],[],[],[]⟩
 pe:=[(.normal,⟨[6,8,10,14],[],[],[]⟩)]
def f57_r12:PD (Int×Bool×(List TCongr)×(List TCongr)×TInstr×Bool) (Bool) where
 sk:=⟨[(6,.loc 0 0),(8,.loc 1 0),(10,.loc 2 0),(14,.v (.int .i64))],[kM,kN,(.cons .bool (.cons .nils (.cons .nils .nil)))],[],0,0⟩
 p:=fun u=>(u.1.1,u.2.1.1.1,u.2.1.1.2.1,u.2.1.1.2.2.1,(q8 u.2.1.2.1),u.2.1.2.2.1.1)
 n:=fun p=>((p.1,()),(((p.2.1,(p.2.2.1,(p.2.2.2.1,()))),((w8 p.2.2.2.2.1),((p.2.2.2.2.2,((),((),()))),()))),()))
 st:=fun Y p ke=>cond (decide (p.2.2.2.2.1.2.2.1<p.1))
  (ask (V.inRange p.2.2.2.2.1.2.2.1 (List.length p.2.2.1)) (cond (gx p.2.2.1 (Int.toNat p.2.2.2.2.1.2.2.1) dCongr).1
  (ke (true))
  (cond (decide (p.2.2.2.2.1.2.2.2.1<p.1))
  (ask (V.inRange p.2.2.2.2.1.2.2.2.1 (List.length p.2.2.1)) (ke ((gx p.2.2.1 (Int.toNat p.2.2.2.2.1.2.2.2.1) dCongr).1)))
  (ke (false)))))
  (cond (decide (p.2.2.2.2.1.2.2.2.1<p.1))
  (ask (V.inRange p.2.2.2.2.1.2.2.2.1 (List.length p.2.2.1)) (ke ((gx p.2.2.1 (Int.toNat p.2.2.2.2.1.2.2.2.1) dCongr).1)))
  (ke (false)))
 o:=fun Z p e K=>K .normal ⟨[(6,.loc 0 0),(10,.loc 1 0),(109,.v (.bool e))],[[.bool p.2.1,.lit cCongr p.2.2.1,.lit cCongr p.2.2.2.1],[.bool p.2.2.2.2.2,.nils,.nils]],⟨[],0⟩,0⟩
 pol:=⟨[6,8,10,14],[],[],[]⟩
 pe:=[(.normal,⟨[6,10,109],[],[],[]⟩)]
def f57_c {X:Type} (a:TGraph×TMods×(List TCongr)×TInstr×Int) (K:TMods->Option X):Option X:=
 (f57_c3.m (a.2.2.1,a.2.2.2.1.2.2.2.2.1,(decide (a.2.2.2.2=(1:Int))),a.1,a.2.1,a.2.2.2.1,false)).bind fun e1=>
 ask (V.inRange a.2.2.2.1.2.2.1 (List.length a.2.2.1)) (ask (V.inRange a.2.2.2.1.2.2.2.1 (List.length a.2.2.1)) ((f113_m (e1,(gx a.2.2.1 (Int.toNat a.2.2.2.1.2.2.1) dCongr),(gx a.2.2.1 (Int.toNat a.2.2.2.1.2.2.2.1) dCongr))).bind fun r2=>
 (f57_r5.m (a.1,a.2.1,a.2.2.2.1,false,r2)).bind fun e3=>
 cond e3
 (K (false,([],[])))
 ((f57_c9.m ((nt (List.length a.1.2.2.2.2.2.1)),(decide (a.2.2.2.1.2.2.1<(nt (List.length a.1.2.2.2.2.2.1)))),a.2.1,a.2.2.2.1,false,r2)).bind fun e4=>
 (f57_c11.m ((nt (List.length a.1.2.2.2.2.2.1)),(decide (a.2.2.2.1.2.2.2.1<(nt (List.length a.1.2.2.2.2.2.1)))),a.2.1.1,e4,a.2.1.2.2,a.2.2.2.1,false,r2.2)).bind fun e5=>
 (f57_r12.m ((nt (List.length a.1.2.2.2.2.2.1)),a.2.1.1,e5,a.2.1.2.2,a.2.2.2.1,false)).bind fun e6=>
 cond e6
 (K (false,([],[])))
 (K (a.2.1.1,(e5,a.2.1.2.2))))))
def f57_m (a:TGraph×TMods×(List TCongr)×TInstr×Int):Option (TMods):=f57_c a some
def f57_sp:Spec:=f57_s.sp f57_m
noncomputable def f57_e:Env:=⟨fun k=>[1000003,1000009,1000011,2000005,2000012].contains k,callsL [(112,f112_sp),(113,f113_sp),(114,f114_sp),(55,f55_sp)],fun X k s K=>if k=1000003 then f57_c3.q X s K else if k=2000005 then f57_r5.q X s K else if k=1000009 then f57_c9.q X s K else if k=1000011 then f57_c11.q X s K else if k=2000012 then f57_r12.q X s K else none⟩
noncomputable def f57_c3_c:Code:=subAt [1,1,0,1] (bodyOf Tryz.f57)
theorem f57_c3_ok (hc:SimCall C f57_e.call):LoopSim f57_e.loop (vc par C true [5,6,8,10,12,13] 112) f57_c3_c:=
 pO (env0:=⟨offJ f57_e.join 1000003,f57_e.call,f57_e.loop⟩) hc rfl f57_c3 (by intros;simp only [f57_c3,PD.m,nn])
noncomputable def f57_r5_c:Code:=subAt [1,1,1,1,0,0] (bodyOf Tryz.f57)
theorem f57_r5_ok (hc:SimCall C f57_e.call):LoopSim f57_e.loop (vc par C true [5,6,8,10,12,13] 112) f57_r5_c:=
 pO (env0:=⟨offJ f57_e.join 2000005,f57_e.call,f57_e.loop⟩) hc rfl f57_r5 (by intros;simp only [f57_r5,PD.m,nn])
noncomputable def f57_c9_c:Code:=subAt [1,1,1,1,1,1,0,1] (bodyOf Tryz.f57)
theorem f57_c9_ok (hc:SimCall C f57_e.call):LoopSim f57_e.loop (vc par C true [5,6,8,10,12,13] 112) f57_c9_c:=
 pO (env0:=⟨offJ f57_e.join 1000009,f57_e.call,f57_e.loop⟩) hc rfl f57_c9 (by intros;simp only [f57_c9,PD.m,nn])
noncomputable def f57_c11_c:Code:=subAt [1,1,1,1,1,1,1,0,1] (bodyOf Tryz.f57)
theorem f57_c11_ok (hc:SimCall C f57_e.call):LoopSim f57_e.loop (vc par C true [5,6,8,10,12,13] 112) f57_c11_c:=
 pO (env0:=⟨offJ f57_e.join 1000011,f57_e.call,f57_e.loop⟩) hc rfl f57_c11 (by intros;simp only [f57_c11,PD.m,nn])
noncomputable def f57_r12_c:Code:=subAt [1,1,1,1,1,1,1,1,0,0] (bodyOf Tryz.f57)
theorem f57_r12_ok (hc:SimCall C f57_e.call):LoopSim f57_e.loop (vc par C true [5,6,8,10,12,13] 112) f57_r12_c:=
 pO (env0:=⟨offJ f57_e.join 2000012,f57_e.call,f57_e.loop⟩) hc rfl f57_r12 (by intros;simp only [f57_r12,PD.m,nn])
theorem f57_ok:OK (5) 57 (f57_s.sp f57_m):=
 fO (d:=4) (env:=f57_e) (callsL_sim (cc f112_ok (cc f113_ok (cc f114_ok (cc f55_ok cn))))) (fn:=Tryz.f57) (mc:=@f57_c) (by intros;simp only [f57_m,f57_c,nn]) (locs:=[5,6,8,10,12,13]) (sh:=(.agg [.any,(.lit cCongr),(.lit cCongr)])) (fz:=true) (hl:=fun hc=>(lp_of (by kernel_rfl) (lp_cons (f57_c3_ok hc) (lp_cons (f57_r5_ok hc) (lp_cons (f57_c9_ok hc) (lp_cons (f57_c11_ok hc) (lp_cons (f57_r12_ok hc) lp_nil)))))))
end
end Go.U
end
