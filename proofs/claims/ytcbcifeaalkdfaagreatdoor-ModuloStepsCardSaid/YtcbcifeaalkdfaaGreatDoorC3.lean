/- The functions of the program as Lean functions, and that the evaluator says so. -/
import Derived.Test.YtcbcifeaalkdfaaGreatDoorC2
set_option linter.unusedVariables false
set_option linter.unusedSimpArgs false
set_option linter.unusedSectionVars false
section
set_option maxRecDepth 100000
namespace Go.U
open Go Go.Proofs
noncomputable section
variable {C:V.Callee}
def f175_s:FS (Int) (Int) where
 sk:=⟨(.cons (.int .u64) .nil),[],0⟩
 a:=fun u=>u.1.1
 n:=fun a=>((a,()),())
 o:=fun Z a r K=>K (.int .i64 r) ⟨[],0⟩
def f175_c {X:Type} (a:Int) (K:Int->Option X):Option X:=
 (f171_m a).bind fun r1=>
 K (wi64 ((64:Int)-r1))
def f175_m (a:Int):Option (Int):=f175_c a some
def f175_sp:Spec:=f175_s.sp f175_m
noncomputable def f175_e:Env:=⟨fun k=>[].contains k,callsL [(171,f171_sp)],fun X k s K=>none⟩
theorem f175_ok:OK (2) 175 (f175_s.sp f175_m):=
 fO (d:=1) (env:=f175_e) (callsL_sim (cc f171_ok cn)) (fn:=Tryz.f175) (mc:=@f175_c) (by intros;simp only [f175_m,f175_c,nn])
def f169_s:FS (Int×Int×Int) (Int×Int) where
 sk:=⟨(.cons (.int .u64) (.cons (.int .u64) (.cons (.int .u64) .nil))),[],0⟩
 a:=fun u=>(u.1.1,u.1.2.1,u.1.2.2.1)
 n:=fun a=>((w3 a),())
 o:=fun Z a r K=>K (.tup [.int .u64 r.1,.int .u64 r.2]) ⟨[],0⟩
def f169_l17:LD (Int×Int×Int×Int×Int×Int×Int) (Int×Int) (Int) where
 sk:=⟨[(2,.v (.int .u64)),(8,.v (.int .u64)),(9,.v (.int .u64)),(10,.v (.int .u64)),(11,.v (.int .u64)),(13,.v (.int .u64)),(14,.v (.int .u64)),(15,.v (.int .u64)),(16,.v (.int .u64))],[],[],0,0⟩
 p:=fun u=>(u.1.1,u.1.2.1,u.1.2.2.1,u.1.2.2.2.1,u.1.2.2.2.2.1,u.1.2.2.2.2.2.1,u.1.2.2.2.2.2.2.1)
 t:=fun u=>(u.1.2.2.2.2.2.2.2.1,u.1.2.2.2.2.2.2.2.2.1)
 n:=fun p t=>((p.1,(p.2.1,(p.2.2.1,(p.2.2.2.1,(p.2.2.2.2.1,(p.2.2.2.2.2.1,(p.2.2.2.2.2.2,(t.1,(t.2,()))))))))),((),()))
 st:=fun Y p t ki ke=>cond (decide ((4294967296:Int)<=t.1))
  (cond (decide ((4294967296:Int)<=(wu64 (t.2+p.2.2.1))))
  (ke ((wu64 (t.1-(1:Int)))))
  (ki ((wu64 (t.1-(1:Int))),(wu64 (t.2+p.2.2.1)))))
  (cond (decide ((wu64 ((wu64 ((4294967296:Int) * t.2))+p.2.2.2.2.2.1))<(wu64 (t.1 * p.2.2.2.1))))
  (cond (decide ((4294967296:Int)<=(wu64 (t.2+p.2.2.1))))
  (ke ((wu64 (t.1-(1:Int)))))
  (ki ((wu64 (t.1-(1:Int))),(wu64 (t.2+p.2.2.1)))))
  (ke (t.1)))
 o:=fun Z p e K=>K (.exit 0) ⟨[(2,.v (.int .u64 p.1)),(8,.v (.int .u64 p.2.1)),(9,.v (.int .u64 p.2.2.1)),(10,.v (.int .u64 p.2.2.2.1)),(11,.v (.int .u64 p.2.2.2.2.1)),(13,.v (.int .u64 p.2.2.2.2.2.1)),(14,.v (.int .u64 p.2.2.2.2.2.2)),(15,.v (.int .u64 e))],[],⟨[],0⟩,0⟩
 pol:=⟨[2,8,9,10,11,13,14,15,16],[],[],[]⟩
 pe:=[(.exit 0,⟨[2,8,9,10,11,13,14,15],[],[],[]⟩)]
def f169_l24:LD (Int×Int×Int×Int×Int×Int×Int) (Int×Int) (Int) where
 sk:=⟨[(2,.v (.int .u64)),(8,.v (.int .u64)),(9,.v (.int .u64)),(10,.v (.int .u64)),(14,.v (.int .u64)),(15,.v (.int .u64)),(16,.v (.int .u64)),(17,.v (.int .u64)),(18,.v (.int .u64))],[],[],0,0⟩
 p:=fun u=>(u.1.1,u.1.2.1,u.1.2.2.1,u.1.2.2.2.1,u.1.2.2.2.2.1,u.1.2.2.2.2.2.1,u.1.2.2.2.2.2.2.2.1)
 t:=fun u=>(u.1.2.2.2.2.2.2.1,u.1.2.2.2.2.2.2.2.2.1)
 n:=fun p t=>((p.1,(p.2.1,(p.2.2.1,(p.2.2.2.1,(p.2.2.2.2.1,(p.2.2.2.2.2.1,(t.1,(p.2.2.2.2.2.2,(t.2,()))))))))),((),()))
 st:=fun Y p t ki ke=>cond (decide ((4294967296:Int)<=t.2))
  (cond (decide ((4294967296:Int)<=(wu64 (t.1+p.2.2.1))))
  (ke ((wu64 (t.2-(1:Int)))))
  (ki ((wu64 (t.1+p.2.2.1)),(wu64 (t.2-(1:Int))))))
  (cond (decide ((wu64 ((wu64 ((4294967296:Int) * t.1))+p.2.2.2.2.1))<(wu64 (t.2 * p.2.2.2.1))))
  (cond (decide ((4294967296:Int)<=(wu64 (t.1+p.2.2.1))))
  (ke ((wu64 (t.2-(1:Int)))))
  (ki ((wu64 (t.1+p.2.2.1)),(wu64 (t.2-(1:Int))))))
  (ke (t.2)))
 o:=fun Z p e K=>K (.exit 2) ⟨[(2,.v (.int .u64 p.1)),(8,.v (.int .u64 p.2.1)),(14,.v (.int .u64 p.2.2.2.2.1)),(15,.v (.int .u64 p.2.2.2.2.2.1)),(17,.v (.int .u64 p.2.2.2.2.2.2)),(18,.v (.int .u64 e))],[],⟨[],0⟩,0⟩
 pol:=⟨[2,8,9,10,14,15,16,17,18],[],[],[]⟩
 pe:=[(.exit 2,⟨[2,8,14,15,17,18],[],[],[]⟩)]
def f169_c {X:Type} (a:Int×Int×Int) (K:(Int×Int)->Option X):Option X:=
 cond (decide (a.2.2=(0:Int)))
 (none)
 (cond (decide (a.2.2<=a.1))
 (none)
 (cond (decide (a.1=(0:Int)))
 (cond (decide (a.2.2=(0:Int)))
 (none)
 (cond (decide (a.2.2=(0:Int)))
 (none)
 (K ((wu64 (Int.tdiv a.2.1 a.2.2)),(Int.tmod a.2.1 a.2.2)))))
 ((f175_m a.2.2).bind fun r1=>
 ask (decide ((0:Int)<=(wu64 r1))) (ask (decide ((0:Int)<=(wu64 r1))) (ask (decide ((0:Int)<=(wu64 ((64:Int)-(wu64 r1))))) (ask (decide ((0:Int)<=(wu64 r1))) (cond (decide ((Int.fdiv (wu64 (a.2.2 * 2^min (Int.toNat (wu64 r1)) 64)) (2^min 32 64))=(0:Int)))
 (none)
 ((loopAll (f169_l17.m ((wu64 (a.2.2 * 2^min (Int.toNat (wu64 r1)) 64)),(wu64 r1),(Int.fdiv (wu64 (a.2.2 * 2^min (Int.toNat (wu64 r1)) 64)) (2^min 32 64)),(bits_and .u64 (wu64 (a.2.2 * 2^min (Int.toNat (wu64 r1)) 64)) 4294967295),(bits_or .u64 (wu64 (a.1 * 2^min (Int.toNat (wu64 r1)) 64)) (Int.fdiv a.2.1 (2^min (Int.toNat (wu64 ((64:Int)-(wu64 r1)))) 64))),(Int.fdiv (wu64 (a.2.1 * 2^min (Int.toNat (wu64 r1)) 64)) (2^min 32 64)),(bits_and .u64 (wu64 (a.2.1 * 2^min (Int.toNat (wu64 r1)) 64)) 4294967295))) ((wu64 (Int.tdiv (bits_or .u64 (wu64 (a.1 * 2^min (Int.toNat (wu64 r1)) 64)) (Int.fdiv a.2.1 (2^min (Int.toNat (wu64 ((64:Int)-(wu64 r1)))) 64))) (Int.fdiv (wu64 (a.2.2 * 2^min (Int.toNat (wu64 r1)) 64)) (2^min 32 64)))),(wu64 ((bits_or .u64 (wu64 (a.1 * 2^min (Int.toNat (wu64 r1)) 64)) (Int.fdiv a.2.1 (2^min (Int.toNat (wu64 ((64:Int)-(wu64 r1)))) 64)))-(wu64 ((wu64 (Int.tdiv (bits_or .u64 (wu64 (a.1 * 2^min (Int.toNat (wu64 r1)) 64)) (Int.fdiv a.2.1 (2^min (Int.toNat (wu64 ((64:Int)-(wu64 r1)))) 64))) (Int.fdiv (wu64 (a.2.2 * 2^min (Int.toNat (wu64 r1)) 64)) (2^min 32 64)))) * (Int.fdiv (wu64 (a.2.2 * 2^min (Int.toNat (wu64 r1)) 64)) (2^min 32 64)))))))).bind fun e2=>
 cond (decide ((Int.fdiv (wu64 (a.2.2 * 2^min (Int.toNat (wu64 r1)) 64)) (2^min 32 64))=(0:Int)))
 (none)
 ((loopAll (f169_l24.m ((wu64 (a.2.2 * 2^min (Int.toNat (wu64 r1)) 64)),(wu64 r1),(Int.fdiv (wu64 (a.2.2 * 2^min (Int.toNat (wu64 r1)) 64)) (2^min 32 64)),(bits_and .u64 (wu64 (a.2.2 * 2^min (Int.toNat (wu64 r1)) 64)) 4294967295),(bits_and .u64 (wu64 (a.2.1 * 2^min (Int.toNat (wu64 r1)) 64)) 4294967295),e2,(wu64 ((wu64 ((wu64 ((bits_or .u64 (wu64 (a.1 * 2^min (Int.toNat (wu64 r1)) 64)) (Int.fdiv a.2.1 (2^min (Int.toNat (wu64 ((64:Int)-(wu64 r1)))) 64))) * (4294967296:Int)))+(Int.fdiv (wu64 (a.2.1 * 2^min (Int.toNat (wu64 r1)) 64)) (2^min 32 64))))-(wu64 (e2 * (wu64 (a.2.2 * 2^min (Int.toNat (wu64 r1)) 64)))))))) ((wu64 ((wu64 ((wu64 ((wu64 ((bits_or .u64 (wu64 (a.1 * 2^min (Int.toNat (wu64 r1)) 64)) (Int.fdiv a.2.1 (2^min (Int.toNat (wu64 ((64:Int)-(wu64 r1)))) 64))) * (4294967296:Int)))+(Int.fdiv (wu64 (a.2.1 * 2^min (Int.toNat (wu64 r1)) 64)) (2^min 32 64))))-(wu64 (e2 * (wu64 (a.2.2 * 2^min (Int.toNat (wu64 r1)) 64))))))-(wu64 ((wu64 (Int.tdiv (wu64 ((wu64 ((wu64 ((bits_or .u64 (wu64 (a.1 * 2^min (Int.toNat (wu64 r1)) 64)) (Int.fdiv a.2.1 (2^min (Int.toNat (wu64 ((64:Int)-(wu64 r1)))) 64))) * (4294967296:Int)))+(Int.fdiv (wu64 (a.2.1 * 2^min (Int.toNat (wu64 r1)) 64)) (2^min 32 64))))-(wu64 (e2 * (wu64 (a.2.2 * 2^min (Int.toNat (wu64 r1)) 64)))))) (Int.fdiv (wu64 (a.2.2 * 2^min (Int.toNat (wu64 r1)) 64)) (2^min 32 64)))) * (Int.fdiv (wu64 (a.2.2 * 2^min (Int.toNat (wu64 r1)) 64)) (2^min 32 64)))))),(wu64 (Int.tdiv (wu64 ((wu64 ((wu64 ((bits_or .u64 (wu64 (a.1 * 2^min (Int.toNat (wu64 r1)) 64)) (Int.fdiv a.2.1 (2^min (Int.toNat (wu64 ((64:Int)-(wu64 r1)))) 64))) * (4294967296:Int)))+(Int.fdiv (wu64 (a.2.1 * 2^min (Int.toNat (wu64 r1)) 64)) (2^min 32 64))))-(wu64 (e2 * (wu64 (a.2.2 * 2^min (Int.toNat (wu64 r1)) 64)))))) (Int.fdiv (wu64 (a.2.2 * 2^min (Int.toNat (wu64 r1)) 64)) (2^min 32 64)))))).bind fun e3=>
 ask (decide ((0:Int)<=(wu64 r1))) (K ((wu64 ((wu64 (e2 * (4294967296:Int)))+e3)),(Int.fdiv (wu64 ((wu64 ((wu64 ((wu64 ((wu64 ((wu64 ((bits_or .u64 (wu64 (a.1 * 2^min (Int.toNat (wu64 r1)) 64)) (Int.fdiv a.2.1 (2^min (Int.toNat (wu64 ((64:Int)-(wu64 r1)))) 64))) * (4294967296:Int)))+(Int.fdiv (wu64 (a.2.1 * 2^min (Int.toNat (wu64 r1)) 64)) (2^min 32 64))))-(wu64 (e2 * (wu64 (a.2.2 * 2^min (Int.toNat (wu64 r1)) 64)))))) * (4294967296:Int)))+(bits_and .u64 (wu64 (a.2.1 * 2^min (Int.toNat (wu64 r1)) 64)) 4294967295)))-(wu64 (e3 * (wu64 (a.2.2 * 2^min (Int.toNat (wu64 r1)) 64)))))) (2^min (Int.toNat (wu64 r1)) 64)))))))))))))
def f169_m (a:Int×Int×Int):Option (Int×Int):=f169_c a some
def f169_sp:Spec:=f169_s.sp f169_m
noncomputable def f169_e:Env:=⟨fun k=>[].contains k,callsL [(175,f175_sp)],fun X k s K=>if k=17 then f169_l17.q X s K else if k=24 then f169_l24.q X s K else none⟩
noncomputable def f169_l17_c:Code:=subAt [1,1,1,1,1,1,1,1,1,1,1,1,1,1,0,0,0] (bodyOf Tryz.f169)
theorem f169_l17_ok (hc:SimCall C f169_e.call):LoopSim f169_e.loop (vc par C true [] 135) (.loop f169_l17_c):=
 lO hc f169_l17 (by intros;simp only [f169_l17,LD.m,nn])
noncomputable def f169_l24_c:Code:=subAt [1,1,1,1,1,1,1,1,1,1,1,1,1,1,1,1,1,1,0,0,0] (bodyOf Tryz.f169)
theorem f169_l24_ok (hc:SimCall C f169_e.call):LoopSim f169_e.loop (vc par C true [] 135) (.loop f169_l24_c):=
 lO hc f169_l24 (by intros;simp only [f169_l24,LD.m,nn])
theorem f169_ok:OK (3) 169 (f169_s.sp f169_m):=
 fO (d:=2) (env:=f169_e) (callsL_sim (cc f175_ok cn)) (fn:=Tryz.f169) (mc:=@f169_c) (by intros;simp only [f169_m,f169_c,nn]) (hl:=fun hc=>(lp_of (by kernel_rfl) (lp_cons (f169_l17_ok hc) (lp_cons (f169_l24_ok hc) lp_nil))))
def f162_s:FS (Int×Int×Int) (Int) where
 sk:=⟨(.cons (.int .u64) (.cons (.int .u64) (.cons (.int .u64) .nil))),[],0⟩
 a:=fun u=>(u.1.1,u.1.2.1,u.1.2.2.1)
 n:=fun a=>((w3 a),())
 o:=fun Z a r K=>K (.int .u64 r) ⟨[],0⟩
def f162_c {X:Type} (a:Int×Int×Int) (K:Int->Option X):Option X:=
 cond (decide (a.2.2=(0:Int)))
 (none)
 ((f169_m ((Int.tmod a.1 a.2.2),a.2.1,a.2.2)).bind fun r1=>
 K r1.2)
def f162_m (a:Int×Int×Int):Option (Int):=f162_c a some
def f162_sp:Spec:=f162_s.sp f162_m
noncomputable def f162_e:Env:=⟨fun k=>[].contains k,callsL [(169,f169_sp)],fun X k s K=>none⟩
theorem f162_ok:OK (4) 162 (f162_s.sp f162_m):=
 fO (d:=3) (env:=f162_e) (callsL_sim (cc f169_ok cn)) (fn:=Tryz.f162) (mc:=@f162_c) (by intros;simp only [f162_m,f162_c,nn])
def f131_s:FS (TItv×Int) (Int) where
 sk:=⟨(.cons (.agg (.cons (.int .u64) (.cons (.int .u64) .nil))) (.cons (.int .u64) .nil)),[],0⟩
 a:=fun u=>((u.1.1.1,u.1.1.2.1),u.1.2.1)
 n:=fun a=>(((a.1.1,(a.1.2,())),(a.2,())),())
 o:=fun Z a r K=>K (.int .u64 r) ⟨[],0⟩
def f131_c {X:Type} (a:TItv×Int) (K:Int->Option X):Option X:=
 (f162_m (a.1.1,a.1.2,a.2)).bind fun r1=>
 K r1
def f131_m (a:TItv×Int):Option (Int):=f131_c a some
def f131_sp:Spec:=f131_s.sp f131_m
noncomputable def f131_e:Env:=⟨fun k=>[].contains k,callsL [(162,f162_sp)],fun X k s K=>none⟩
theorem f131_ok:OK (5) 131 (f131_s.sp f131_m):=
 fO (d:=4) (env:=f131_e) (callsL_sim (cc f162_ok cn)) (fn:=Tryz.f131) (mc:=@f131_c) (by intros;simp only [f131_m,f131_c,nn]) (locs:=[2])
def f91_s:FS (TCongr×TCongr) (TCongr) where
 sk:=⟨(.cons (.agg kC) (.cons (.agg kC) .nil)),[],0⟩
 a:=fun u=>((q3 u.1.1),(q3 u.1.2.1))
 n:=fun a=>(((w3 a.1),((w3 a.2),())),())
 o:=fun Z a r K=>K (.agg [.bool r.1,.int .i64 r.2.1,.int .i64 r.2.2]) ⟨[],0⟩
def f91_c {X:Type} (a:TCongr×TCongr) (K:TCongr->Option X):Option X:=
 cond a.1.1
 (K (true,(0,0)))
 (cond a.2.1
 (K (true,(0,0)))
 ((f129_m a.2.2.2).bind fun r1=>
 (f128_m ((wu64 ((wu64 a.1.2.1) * (wu64 a.2.2.1))),(wu64 ((wu64 a.1.2.1) * r1)))).bind fun r2=>
 (f129_m a.1.2.2).bind fun r3=>
 (f128_m (r2,(wu64 ((wu64 a.2.2.1) * r3)))).bind fun r4=>
 (f130_m (a.1.2.2,a.2.2.2)).bind fun r5=>
 cond (decide (r4=(0:Int)))
 (cond (!(decide (r5.1.1=(0:Int))))
 (K (true,(0,0)))
 (cond (decide ((4611686018427387904:Int)<r5.1.2))
 (K (true,(0,0)))
 (cond r5.2
 ((f127_m (wi64 ((0:Int)-(wi64 r5.1.2)))).bind fun r6=>
 K (r6.1,(0,r6.2)))
 ((f127_m (wi64 r5.1.2)).bind fun r7=>
 K (r7.1,(0,r7.2))))))
 ((f131_m (r5.1,r4)).bind fun r8=>
 cond r5.2
 (cond (decide ((0:Int)<r8))
 ((f132_m (r4,(wu64 (r4-r8)))).bind fun r9=>
 K r9)
 ((f132_m (r4,r8)).bind fun r10=>
 K r10))
 ((f132_m (r4,r8)).bind fun r11=>
 K r11))))
def f91_m (a:TCongr×TCongr):Option (TCongr):=f91_c a some
def f91_sp:Spec:=f91_s.sp f91_m
noncomputable def f91_e:Env:=⟨fun k=>[].contains k,callsL [(124,f124_sp),(129,f129_sp),(128,f128_sp),(130,f130_sp),(127,f127_sp),(131,f131_sp),(132,f132_sp)],fun X k s K=>none⟩
theorem f91_ok:OK (6) 91 (f91_s.sp f91_m):=
 fO (d:=5) (env:=f91_e) (callsL_sim (cc f124_ok (cc f129_ok (cc f128_ok (cc f130_ok (cc f127_ok (cc f131_ok (cc f132_ok cn)))))))) (fn:=Tryz.f91) (mc:=@f91_c) (by intros;simp only [f91_m,f91_c,nn]) (locs:=[2,3,4,6])
def f133_s:FS (Unit) (Unit) where
 sk:=⟨.nil,[],0⟩
 a:=fun u=>()
 n:=fun a=>((),())
 o:=fun Z a r K=>K (.agg [.bool false,.int .i64 1,.int .i64 0]) ⟨[],0⟩
def f133_c {X:Type} (a:Unit) (K:Unit->Option X):Option X:=
 K ()
def f133_m (a:Unit):Option (Unit):=f133_c a some
def f133_sp:Spec:=f133_s.sp f133_m
noncomputable def f133_e:Env:=⟨fun k=>[].contains k,callsL [],fun X k s K=>none⟩
theorem f133_ok:OK (1) 133 (f133_s.sp f133_m):=
 fO (d:=0) (env:=f133_e) (callsL_sim cn) (fn:=Tryz.f133) (mc:=@f133_c) (by intros;simp only [f133_m,f133_c,nn]) (locs:=[0])
def f92_s:FS (TCongr×TCongr) (TCongr) where
 sk:=⟨(.cons (.agg kC) (.cons (.agg kC) .nil)),[],0⟩
 a:=fun u=>((q3 u.1.1),(q3 u.1.2.1))
 n:=fun a=>(((w3 a.1),((w3 a.2),())),())
 o:=fun Z a r K=>K (.agg [.bool r.1,.int .i64 r.2.1,.int .i64 r.2.2]) ⟨[],0⟩
def f92_c {X:Type} (a:TCongr×TCongr) (K:TCongr->Option X):Option X:=
 cond a.1.1
 (K (true,(0,0)))
 (cond a.2.1
 (K (true,(0,0)))
 (cond ((a.2.1==false)&&((decide (a.2.2.1=(0:Int)))&&((decide (a.2.2.2=(0:Int)))&&true)))
 (K (true,(0,0)))
 (cond (!(decide (a.2.2.1=(0:Int))))
 (K (false,(1,0)))
 (cond (decide (a.1.2.1=(0:Int)))
 (cond (decide (a.2.2.2=(0:Int)))
 (none)
 ((f127_m (wi64 (Int.tdiv a.1.2.2 a.2.2.2))).bind fun r1=>
 K (r1.1,(0,r1.2))))
 (cond (decide (a.2.2.2=(0:Int)))
 (none)
 (cond (decide ((Int.tmod a.1.2.1 a.2.2.2)=(0:Int)))
 (cond (decide (a.2.2.2=(0:Int)))
 (none)
 (cond (decide ((Int.tmod a.1.2.2 a.2.2.2)=(0:Int)))
 (cond (decide (a.2.2.2=(0:Int)))
 (none)
 (cond (decide (a.2.2.2=(0:Int)))
 (none)
 ((f122_m ((wi64 (Int.tdiv a.1.2.1 a.2.2.2)),(wi64 (Int.tdiv a.1.2.2 a.2.2.2)))).bind fun r2=>
 K r2)))
 (K (false,(1,0)))))
 (K (false,(1,0)))))))))
def f92_m (a:TCongr×TCongr):Option (TCongr):=f92_c a some
def f92_sp:Spec:=f92_s.sp f92_m
noncomputable def f92_e:Env:=⟨fun k=>[].contains k,callsL [(124,f124_sp),(133,f133_sp),(127,f127_sp),(122,f122_sp)],fun X k s K=>none⟩
theorem f92_ok:OK (5) 92 (f92_s.sp f92_m):=
 fO (d:=4) (env:=f92_e) (callsL_sim (cc f124_ok (cc f133_ok (cc f127_ok (cc f122_ok cn))))) (fn:=Tryz.f92) (mc:=@f92_c) (by intros;simp only [f92_m,f92_c,nn]) (locs:=[2,3,4])
def f93_s:FS (TCongr×TCongr) (TCongr) where
 sk:=⟨(.cons (.agg kC) (.cons (.agg kC) .nil)),[],0⟩
 a:=fun u=>((q3 u.1.1),(q3 u.1.2.1))
 n:=fun a=>(((w3 a.1),((w3 a.2),())),())
 o:=fun Z a r K=>K (.agg [.bool r.1,.int .i64 r.2.1,.int .i64 r.2.2]) ⟨[],0⟩
def f93_c {X:Type} (a:TCongr×TCongr) (K:TCongr->Option X):Option X:=
 cond a.1.1
 (K (true,(0,0)))
 (cond a.2.1
 (K (true,(0,0)))
 (cond ((a.2.1==false)&&((decide (a.2.2.1=(0:Int)))&&((decide (a.2.2.2=(0:Int)))&&true)))
 (K (true,(0,0)))
 (cond (decide (a.1.2.1=(0:Int)))
 (cond (decide (a.2.2.1=(0:Int)))
 (cond (decide (a.2.2.2=(0:Int)))
 (none)
 ((f127_m (Int.tmod a.1.2.2 a.2.2.2)).bind fun r1=>
 K (r1.1,(0,r1.2))))
 ((f128_m ((wu64 a.1.2.1),(wu64 a.2.2.1))).bind fun r2=>
 (f129_m a.2.2.2).bind fun r3=>
 (f128_m (r2,r3)).bind fun r4=>
 (f98_m (r4,a.1.2.2)).bind fun r5=>
 K r5))
 ((f128_m ((wu64 a.1.2.1),(wu64 a.2.2.1))).bind fun r6=>
 (f129_m a.2.2.2).bind fun r7=>
 (f128_m (r6,r7)).bind fun r8=>
 (f98_m (r8,a.1.2.2)).bind fun r9=>
 K r9))))
def f93_m (a:TCongr×TCongr):Option (TCongr):=f93_c a some
def f93_sp:Spec:=f93_s.sp f93_m
noncomputable def f93_e:Env:=⟨fun k=>[].contains k,callsL [(124,f124_sp),(127,f127_sp),(128,f128_sp),(129,f129_sp),(98,f98_sp)],fun X k s K=>none⟩
theorem f93_ok:OK (5) 93 (f93_s.sp f93_m):=
 fO (d:=4) (env:=f93_e) (callsL_sim (cc f124_ok (cc f127_ok (cc f128_ok (cc f129_ok (cc f98_ok cn)))))) (fn:=Tryz.f93) (mc:=@f93_c) (by intros;simp only [f93_m,f93_c,nn]) (locs:=[2,3,4])
def f83_s:FS (TCongr×TCongr) (TCongr) where
 sk:=⟨(.cons (.agg kC) (.cons (.agg kC) .nil)),[],0⟩
 a:=fun u=>((q3 u.1.1),(q3 u.1.2.1))
 n:=fun a=>(((w3 a.1),((w3 a.2),())),())
 o:=fun Z a r K=>K (.agg [.bool r.1,.int .i64 r.2.1,.int .i64 r.2.2]) ⟨[],0⟩
def f83_c {X:Type} (a:TCongr×TCongr) (K:TCongr->Option X):Option X:=
 cond a.1.1
 (K (true,(0,0)))
 (cond a.2.1
 (K (true,(0,0)))
 ((f51_m (a.1,a.2)).bind fun r1=>
 K r1))
def f83_m (a:TCongr×TCongr):Option (TCongr):=f83_c a some
def f83_sp:Spec:=f83_s.sp f83_m
noncomputable def f83_e:Env:=⟨fun k=>[].contains k,callsL [(84,f84_sp),(51,f51_sp)],fun X k s K=>none⟩
theorem f83_ok:OK (6) 83 (f83_s.sp f83_m):=
 fO (d:=5) (env:=f83_e) (callsL_sim (cc f84_ok (cc f51_ok cn))) (fn:=Tryz.f83) (mc:=@f83_c) (by intros;simp only [f83_m,f83_c,nn]) (locs:=[2,3,4])
def f47_s:FS (Int×TGraph×TMods×(List (Int×TInstr))×(List (Int×TCongr))) (TCongr×(List (Int×TCongr))) where
 sk:=⟨(.cons (.ptr 0 0) (.cons (.int .i64) .nil)),[.opn (.cons (.lit cInstr) (.cons (.int .i64) (.cons (.int .i64) (.cons (.int .i64) (.cons (.lit cArray) (.cons (.lit cScalar) (.cons (.lit cArray) (.cons (.lit cItv) (.cons .bool (.cons (.lit cCongr) (.cons (.lit cCongr) (.cons (.mp 1) (.cons (.mp 2) (.cons (.mp 3) .nil)))))))))))))),.mapT (.int .i64) true cInstr,.mapT (.int .i64) true cCongr,.mapL (.int .i64) [((2:Int),(.fn 85 .nil)),((3:Int),(.fn 87 .nil)),((4:Int),(.fn 89 .nil)),((5:Int),(.fn 90 .nil)),((6:Int),(.fn 91 .nil)),((7:Int),(.fn 92 .nil)),((8:Int),(.fn 93 .nil)),((9:Int),(.fn 83 .nil)),((10:Int),(.fn 83 .nil))]],0⟩
 a:=fun u=>(u.1.2.1,(q8 u.2.1),(q3 u.2.1.2.2.2.2.2.2.2.2),u.2.2.1,u.2.2.2.1)
 n:=fun a=>(((),(a.1,())),((a.2.1.1,(a.2.1.2.1,(a.2.1.2.2.1,(a.2.1.2.2.2.1,(a.2.1.2.2.2.2.1,(a.2.1.2.2.2.2.2.1,(a.2.1.2.2.2.2.2.2.1,(a.2.1.2.2.2.2.2.2.2,(a.2.2.1.1,(a.2.2.1.2.1,(a.2.2.1.2.2,((),((),((),())))))))))))))),(a.2.2.2.1,(a.2.2.2.2,(((),((),((),((),((),((),((),((),((),()))))))))),())))))
 o:=fun Z a r K=>K (.agg [.bool r.1.1,.int .i64 r.1.2.1,.int .i64 r.1.2.2]) ⟨[.opn [.lit cInstr a.2.1.1,.int .i64 a.2.1.2.1,.int .i64 a.2.1.2.2.1,.int .i64 a.2.1.2.2.2.1,.lit cArray a.2.1.2.2.2.2.1,.lit cScalar a.2.1.2.2.2.2.2.1,.lit cArray a.2.1.2.2.2.2.2.2.1,.lit cItv a.2.1.2.2.2.2.2.2.2,.bool a.2.2.1.1,.lit cCongr a.2.2.1.2.1,.lit cCongr a.2.2.1.2.2,.mp 1,.mp 2,.mp 3],.mapT (.int .i64) true cInstr a.2.2.2.1,.mapT (.int .i64) true cCongr r.2,.mapL (.int .i64) [((2:Int),.fn 85 []),((3:Int),.fn 87 []),((4:Int),.fn 89 []),((5:Int),.fn 90 []),((6:Int),.fn 91 []),((7:Int),.fn 92 []),((8:Int),.fn 93 []),((9:Int),.fn 83 []),((10:Int),.fn 83 [])]],0⟩
class Rec47 where
 m:(Int×TGraph×TMods×(List (Int×TInstr))×(List (Int×TCongr)))->Option (TCongr×(List (Int×TCongr)))
section
variable [Rec47]
def f47_sp:Spec:=f47_s.sp Rec47.m
end
section
variable [Rec47]
def f94_s:FS (TInstr×TGraph×TMods×(List (Int×TInstr))×(List (Int×TCongr))) (TCongr×(List (Int×TCongr))) where
 sk:=⟨(.cons (.ptr 0 0) (.cons (.agg kN) .nil)),[.opn (.cons (.lit cInstr) (.cons (.int .i64) (.cons (.int .i64) (.cons (.int .i64) (.cons (.lit cArray) (.cons (.lit cScalar) (.cons (.lit cArray) (.cons (.lit cItv) (.cons .bool (.cons (.lit cCongr) (.cons (.lit cCongr) (.cons (.mp 1) (.cons (.mp 2) (.cons (.mp 3) .nil)))))))))))))),.mapT (.int .i64) true cInstr,.mapT (.int .i64) true cCongr,.mapL (.int .i64) [((2:Int),(.fn 85 .nil)),((3:Int),(.fn 87 .nil)),((4:Int),(.fn 89 .nil)),((5:Int),(.fn 90 .nil)),((6:Int),(.fn 91 .nil)),((7:Int),(.fn 92 .nil)),((8:Int),(.fn 93 .nil)),((9:Int),(.fn 83 .nil)),((10:Int),(.fn 83 .nil))]],0⟩
 a:=fun u=>((q8 u.1.2.1),(q8 u.2.1),(q3 u.2.1.2.2.2.2.2.2.2.2),u.2.2.1,u.2.2.2.1)
 n:=fun a=>(((),((w8 a.1),())),((a.2.1.1,(a.2.1.2.1,(a.2.1.2.2.1,(a.2.1.2.2.2.1,(a.2.1.2.2.2.2.1,(a.2.1.2.2.2.2.2.1,(a.2.1.2.2.2.2.2.2.1,(a.2.1.2.2.2.2.2.2.2,(a.2.2.1.1,(a.2.2.1.2.1,(a.2.2.1.2.2,((),((),((),())))))))))))))),(a.2.2.2.1,(a.2.2.2.2,(((),((),((),((),((),((),((),((),((),()))))))))),())))))
 o:=fun Z a r K=>K (.agg [.bool r.1.1,.int .i64 r.1.2.1,.int .i64 r.1.2.2]) ⟨[.opn [.lit cInstr a.2.1.1,.int .i64 a.2.1.2.1,.int .i64 a.2.1.2.2.1,.int .i64 a.2.1.2.2.2.1,.lit cArray a.2.1.2.2.2.2.1,.lit cScalar a.2.1.2.2.2.2.2.1,.lit cArray a.2.1.2.2.2.2.2.2.1,.lit cItv a.2.1.2.2.2.2.2.2.2,.bool a.2.2.1.1,.lit cCongr a.2.2.1.2.1,.lit cCongr a.2.2.1.2.2,.mp 1,.mp 2,.mp 3],.mapT (.int .i64) true cInstr a.2.2.2.1,.mapT (.int .i64) true cCongr r.2,.mapL (.int .i64) [((2:Int),.fn 85 []),((3:Int),.fn 87 []),((4:Int),.fn 89 []),((5:Int),.fn 90 []),((6:Int),.fn 91 []),((7:Int),.fn 92 []),((8:Int),.fn 93 []),((9:Int),.fn 83 []),((10:Int),.fn 83 [])]],0⟩
def f94_c {X:Type} (a:TInstr×TGraph×TMods×(List (Int×TInstr))×(List (Int×TCongr))) (K:(TCongr×(List (Int×TCongr)))->Option X):Option X:=
 cond (decide (a.1.1=(1:Int)))
 ((f70_m a.1.2.2.2.2.1).bind fun r1=>
 K (r1,a.2.2.2.2))
 (cond (decide (a.1.1=(11:Int)))
 (ask (V.inRange a.1.2.2.1 (List.length a.2.2.1.2.2)) (K ((gx a.2.2.1.2.2 (Int.toNat a.1.2.2.1) dCongr),a.2.2.2.2)))
 (cond (decide (a.1.1=(12:Int)))
 (ask (V.inRange a.1.2.2.1 (List.length a.2.1.2.2.2.2.1)) (cond (decide ((gx a.2.1.2.2.2.2.1 (Int.toNat a.1.2.2.1) dArray).2.2.1=(gx a.2.1.2.2.2.2.1 (Int.toNat a.1.2.2.1) dArray).2.2.2))
 ((f70_m (gx a.2.1.2.2.2.2.1 (Int.toNat a.1.2.2.1) dArray).2.2.1).bind fun r2=>
 K (r2,a.2.2.2.2))
 ((f134_m ()).bind fun r3=>
 K (r3,a.2.2.2.2))))
 (cond (decide (a.1.1=(2:Int)))
 (cond (decide (a.1.1=(2:Int)))
 ((Rec47.m (a.1.2.2.1,a.2.1,a.2.2.1,a.2.2.2.1,a.2.2.2.2)).bind fun r4=>
 (f85_m (r4.1,(false,(0,0)))).bind fun r5=>
 K (r5,r4.2))
 (cond (decide (a.1.1=(3:Int)))
 ((Rec47.m (a.1.2.2.1,a.2.1,a.2.2.1,a.2.2.2.1,a.2.2.2.2)).bind fun r6=>
 (f87_m (r6.1,(false,(0,0)))).bind fun r7=>
 K (r7,r6.2))
 (cond (decide (a.1.1=(4:Int)))
 ((Rec47.m (a.1.2.2.1,a.2.1,a.2.2.1,a.2.2.2.1,a.2.2.2.2)).bind fun r8=>
 (f89_m (r8.1,(false,(0,0)))).bind fun r9=>
 K (r9,r8.2))
 (cond (decide (a.1.1=(5:Int)))
 ((Rec47.m (a.1.2.2.1,a.2.1,a.2.2.1,a.2.2.2.1,a.2.2.2.2)).bind fun r10=>
 (f90_m (r10.1,(false,(0,0)))).bind fun r11=>
 K (r11,r10.2))
 (cond (decide (a.1.1=(6:Int)))
 ((Rec47.m (a.1.2.2.1,a.2.1,a.2.2.1,a.2.2.2.1,a.2.2.2.2)).bind fun r12=>
 (f91_m (r12.1,(false,(0,0)))).bind fun r13=>
 K (r13,r12.2))
 (cond (decide (a.1.1=(7:Int)))
 ((Rec47.m (a.1.2.2.1,a.2.1,a.2.2.1,a.2.2.2.1,a.2.2.2.2)).bind fun r14=>
 (f92_m (r14.1,(false,(0,0)))).bind fun r15=>
 K (r15,r14.2))
 (cond (decide (a.1.1=(8:Int)))
 ((Rec47.m (a.1.2.2.1,a.2.1,a.2.2.1,a.2.2.2.1,a.2.2.2.2)).bind fun r16=>
 (f93_m (r16.1,(false,(0,0)))).bind fun r17=>
 K (r17,r16.2))
 (cond (decide (a.1.1=(9:Int)))
 ((Rec47.m (a.1.2.2.1,a.2.1,a.2.2.1,a.2.2.2.1,a.2.2.2.2)).bind fun r18=>
 (f83_m (r18.1,(false,(0,0)))).bind fun r19=>
 K (r19,r18.2))
 (cond (decide (a.1.1=(10:Int)))
 ((Rec47.m (a.1.2.2.1,a.2.1,a.2.2.1,a.2.2.2.1,a.2.2.2.2)).bind fun r20=>
 (f83_m (r20.1,(false,(0,0)))).bind fun r21=>
 K (r21,r20.2))
 ((Rec47.m (a.1.2.2.1,a.2.1,a.2.2.1,a.2.2.2.1,a.2.2.2.2)).bind fun r22=>
 none))))))))))
 (cond (decide (a.1.1=(3:Int)))
 (cond (decide (a.1.1=(2:Int)))
 ((Rec47.m (a.1.2.2.1,a.2.1,a.2.2.1,a.2.2.2.1,a.2.2.2.2)).bind fun r23=>
 (f85_m (r23.1,(false,(0,0)))).bind fun r24=>
 K (r24,r23.2))
 (cond (decide (a.1.1=(3:Int)))
 ((Rec47.m (a.1.2.2.1,a.2.1,a.2.2.1,a.2.2.2.1,a.2.2.2.2)).bind fun r25=>
 (f87_m (r25.1,(false,(0,0)))).bind fun r26=>
 K (r26,r25.2))
 (cond (decide (a.1.1=(4:Int)))
 ((Rec47.m (a.1.2.2.1,a.2.1,a.2.2.1,a.2.2.2.1,a.2.2.2.2)).bind fun r27=>
 (f89_m (r27.1,(false,(0,0)))).bind fun r28=>
 K (r28,r27.2))
 (cond (decide (a.1.1=(5:Int)))
 ((Rec47.m (a.1.2.2.1,a.2.1,a.2.2.1,a.2.2.2.1,a.2.2.2.2)).bind fun r29=>
 (f90_m (r29.1,(false,(0,0)))).bind fun r30=>
 K (r30,r29.2))
 (cond (decide (a.1.1=(6:Int)))
 ((Rec47.m (a.1.2.2.1,a.2.1,a.2.2.1,a.2.2.2.1,a.2.2.2.2)).bind fun r31=>
 (f91_m (r31.1,(false,(0,0)))).bind fun r32=>
 K (r32,r31.2))
 (cond (decide (a.1.1=(7:Int)))
 ((Rec47.m (a.1.2.2.1,a.2.1,a.2.2.1,a.2.2.2.1,a.2.2.2.2)).bind fun r33=>
 (f92_m (r33.1,(false,(0,0)))).bind fun r34=>
 K (r34,r33.2))
 (cond (decide (a.1.1=(8:Int)))
 ((Rec47.m (a.1.2.2.1,a.2.1,a.2.2.1,a.2.2.2.1,a.2.2.2.2)).bind fun r35=>
 (f93_m (r35.1,(false,(0,0)))).bind fun r36=>
 K (r36,r35.2))
 (cond (decide (a.1.1=(9:Int)))
 ((Rec47.m (a.1.2.2.1,a.2.1,a.2.2.1,a.2.2.2.1,a.2.2.2.2)).bind fun r37=>
 (f83_m (r37.1,(false,(0,0)))).bind fun r38=>
 K (r38,r37.2))
 (cond (decide (a.1.1=(10:Int)))
 ((Rec47.m (a.1.2.2.1,a.2.1,a.2.2.1,a.2.2.2.1,a.2.2.2.2)).bind fun r39=>
 (f83_m (r39.1,(false,(0,0)))).bind fun r40=>
 K (r40,r39.2))
 ((Rec47.m (a.1.2.2.1,a.2.1,a.2.2.1,a.2.2.2.1,a.2.2.2.2)).bind fun r41=>
 none))))))))))
 (cond (decide (a.1.1=(2:Int)))
 ((Rec47.m (a.1.2.2.1,a.2.1,a.2.2.1,a.2.2.2.1,a.2.2.2.2)).bind fun r42=>
 (Rec47.m (a.1.2.2.2.1,a.2.1,a.2.2.1,a.2.2.2.1,r42.2)).bind fun r43=>
 (f85_m (r42.1,r43.1)).bind fun r44=>
 K (r44,r43.2))
 (cond (decide (a.1.1=(3:Int)))
 ((Rec47.m (a.1.2.2.1,a.2.1,a.2.2.1,a.2.2.2.1,a.2.2.2.2)).bind fun r45=>
 (Rec47.m (a.1.2.2.2.1,a.2.1,a.2.2.1,a.2.2.2.1,r45.2)).bind fun r46=>
 (f87_m (r45.1,r46.1)).bind fun r47=>
 K (r47,r46.2))
 (cond (decide (a.1.1=(4:Int)))
 ((Rec47.m (a.1.2.2.1,a.2.1,a.2.2.1,a.2.2.2.1,a.2.2.2.2)).bind fun r48=>
 (Rec47.m (a.1.2.2.2.1,a.2.1,a.2.2.1,a.2.2.2.1,r48.2)).bind fun r49=>
 (f89_m (r48.1,r49.1)).bind fun r50=>
 K (r50,r49.2))
 (cond (decide (a.1.1=(5:Int)))
 ((Rec47.m (a.1.2.2.1,a.2.1,a.2.2.1,a.2.2.2.1,a.2.2.2.2)).bind fun r51=>
 (Rec47.m (a.1.2.2.2.1,a.2.1,a.2.2.1,a.2.2.2.1,r51.2)).bind fun r52=>
 (f90_m (r51.1,r52.1)).bind fun r53=>
 K (r53,r52.2))
 (cond (decide (a.1.1=(6:Int)))
 ((Rec47.m (a.1.2.2.1,a.2.1,a.2.2.1,a.2.2.2.1,a.2.2.2.2)).bind fun r54=>
 (Rec47.m (a.1.2.2.2.1,a.2.1,a.2.2.1,a.2.2.2.1,r54.2)).bind fun r55=>
 (f91_m (r54.1,r55.1)).bind fun r56=>
 K (r56,r55.2))
 (cond (decide (a.1.1=(7:Int)))
 ((Rec47.m (a.1.2.2.1,a.2.1,a.2.2.1,a.2.2.2.1,a.2.2.2.2)).bind fun r57=>
 (Rec47.m (a.1.2.2.2.1,a.2.1,a.2.2.1,a.2.2.2.1,r57.2)).bind fun r58=>
 (f92_m (r57.1,r58.1)).bind fun r59=>
 K (r59,r58.2))
 (cond (decide (a.1.1=(8:Int)))
 ((Rec47.m (a.1.2.2.1,a.2.1,a.2.2.1,a.2.2.2.1,a.2.2.2.2)).bind fun r60=>
 (Rec47.m (a.1.2.2.2.1,a.2.1,a.2.2.1,a.2.2.2.1,r60.2)).bind fun r61=>
 (f93_m (r60.1,r61.1)).bind fun r62=>
 K (r62,r61.2))
 (cond (decide (a.1.1=(9:Int)))
 ((Rec47.m (a.1.2.2.1,a.2.1,a.2.2.1,a.2.2.2.1,a.2.2.2.2)).bind fun r63=>
 (Rec47.m (a.1.2.2.2.1,a.2.1,a.2.2.1,a.2.2.2.1,r63.2)).bind fun r64=>
 (f83_m (r63.1,r64.1)).bind fun r65=>
 K (r65,r64.2))
 (cond (decide (a.1.1=(10:Int)))
 ((Rec47.m (a.1.2.2.1,a.2.1,a.2.2.1,a.2.2.2.1,a.2.2.2.2)).bind fun r66=>
 (Rec47.m (a.1.2.2.2.1,a.2.1,a.2.2.1,a.2.2.2.1,r66.2)).bind fun r67=>
 (f83_m (r66.1,r67.1)).bind fun r68=>
 K (r68,r67.2))
 ((Rec47.m (a.1.2.2.1,a.2.1,a.2.2.1,a.2.2.2.1,a.2.2.2.2)).bind fun r69=>
 (Rec47.m (a.1.2.2.2.1,a.2.1,a.2.2.1,a.2.2.2.1,r69.2)).bind fun r70=>
 none))))))))))))))
def f94_m (a:TInstr×TGraph×TMods×(List (Int×TInstr))×(List (Int×TCongr))):Option (TCongr×(List (Int×TCongr))):=f94_c a some
def f94_sp:Spec:=f94_s.sp f94_m
noncomputable def f94_e:Env:=⟨fun k=>[].contains k,callsL [(70,f70_sp),(134,f134_sp),(47,f47_sp),(85,f85_sp),(87,f87_sp),(89,f89_sp),(90,f90_sp),(91,f91_sp),(92,f92_sp),(93,f93_sp),(83,f83_sp)],fun X k s K=>none⟩
theorem f94_ok {D:Nat} (hrec:OK D 47 f47_sp):OK (D+8) 94 (f94_s.sp f94_m):=
 fO (d:=D+7) (env:=f94_e) (callsL_sim (cc f70_ok (cc f134_ok (cc hrec (cc f85_ok (cc f87_ok (cc f89_ok (cc f90_ok (cc f91_ok (cc f92_ok (cc f93_ok (cc f83_ok cn)))))))))))) (fn:=Tryz.f94) (mc:=fun X a K=>f94_c a K) (by intros;simp only [f94_m,f94_c,nn]) (locs:=[3,4,5,1000057,1000070,1000074])
end
section
variable [Rec47]
def f47_c {X:Type} (a:Int×TGraph×TMods×(List (Int×TInstr))×(List (Int×TCongr))) (K:(TCongr×(List (Int×TCongr)))->Option X):Option X:=
 cond (!a.2.2.1.1)
 (K ((true,(0,0)),a.2.2.2.2))
 (cond (decide (a.1<(nt (List.length a.2.1.2.2.2.2.2.1))))
 (ask (V.inRange a.1 (List.length a.2.2.1.2.1)) (K ((gx a.2.2.1.2.1 (Int.toNat a.1) dCongr),a.2.2.2.2)))
 (cond (hasT (k:=(.int .i64)) a.1 a.2.2.2.2)
 (K ((getT (k:=(.int .i64)) a.1 dCongr a.2.2.2.2),a.2.2.2.2))
 (cond (hasT (k:=(.int .i64)) a.1 a.2.2.2.1)
 ((f94_m ((getT (k:=(.int .i64)) a.1 dInstr a.2.2.2.1),a.2.1,a.2.2.1,a.2.2.2.1,a.2.2.2.2)).bind fun r1=>
 K (r1.1,(setT (k:=(.int .i64)) a.1 r1.1 r1.2)))
 ((f94_m ((0,(0,(0,(0,(0,(0,(0,0))))))),a.2.1,a.2.2.1,a.2.2.2.1,a.2.2.2.2)).bind fun r2=>
 K (r2.1,(setT (k:=(.int .i64)) a.1 r2.1 r2.2))))))
def f47_m (a:Int×TGraph×TMods×(List (Int×TInstr))×(List (Int×TCongr))):Option (TCongr×(List (Int×TCongr))):=f47_c a some
noncomputable def f47_e:Env:=⟨fun k=>[].contains k,callsL [(84,f84_sp),(94,f94_sp)],fun X k s K=>none⟩
theorem f47_okS {D:Nat} (hrec:OK D 47 f47_sp):OK (D+9) 47 (f47_s.sp f47_m):=
 fO (d:=D+8) (env:=f47_e) (callsL_sim (cc f84_ok (cc (f94_ok hrec) cn))) (fn:=Tryz.f47) (mc:=fun X a K=>f47_c a K) (by intros;simp only [f47_m,f47_c,nn]) (locs:=[4,5,7])
end
def f47_ev:Nat->(Int×TGraph×TMods×(List (Int×TInstr))×(List (Int×TCongr)))->Option (TCongr×(List (Int×TCongr)))
 |0,_=>none
 |n+1,a=>@f47_m ⟨f47_ev n⟩ a
theorem f47_ev_ok:∀ n,OK (n * 9) 47 (f47_s.sp (f47_ev n))
 |0=>OK_none fun _=>rfl
 |n+1=>OK_le (@f47_okS ⟨f47_ev n⟩ _ (f47_ev_ok n)) (by omega)
def f47_fuel:Nat:=18446744073709551616
noncomputable instance:Rec47:=⟨f47_ev f47_fuel⟩
theorem f47_ok:OK 166020696663385964544 47 f47_sp:=OK_le (f47_ev_ok f47_fuel) (by unfold f47_fuel;omega)
def f144_s:FS (Unit) (Unit) where
 sk:=⟨.nil,[],0⟩
 a:=fun u=>()
 n:=fun a=>((),())
 o:=fun Z a r K=>K (.agg [.int .i64 1,.int .i64 0]) ⟨[],0⟩
def f144_c {X:Type} (a:Unit) (K:Unit->Option X):Option X:=
 K ()
def f144_m (a:Unit):Option (Unit):=f144_c a some
def f144_sp:Spec:=f144_s.sp f144_m
noncomputable def f144_e:Env:=⟨fun k=>[].contains k,callsL [],fun X k s K=>none⟩
theorem f144_ok:OK (1) 144 (f144_s.sp f144_m):=
 fO (d:=0) (env:=f144_e) (callsL_sim cn) (fn:=Tryz.f144) (mc:=@f144_c) (by intros;simp only [f144_m,f144_c,nn]) (locs:=[0])
def f97_s:FS (Int) (TItv) where
 sk:=⟨(.cons (.int .i64) .nil),[],0⟩
 a:=fun u=>u.1.1
 n:=fun a=>((a,()),())
 o:=fun Z a r K=>K (.agg [.int .i64 r.1,.int .i64 r.2]) ⟨[],0⟩
def f97_c {X:Type} (a:Int) (K:TItv->Option X):Option X:=
 cond (decide (a=(1:Int)))
 (ask (decide ((0:Int)<=(wu64 a))) (ask (decide ((0:Int)<=(wu64 ((wu64 (4 * 2^min (Int.toNat (wu64 a)) 64))-(1:Int))))) (K ((wi64 ((0:Int)-(wi64 (1 * 2^min (Int.toNat (wu64 ((wu64 (4 * 2^min (Int.toNat (wu64 a)) 64))-(1:Int)))) 64)))),(wi64 ((wi64 (1 * 2^min (Int.toNat (wu64 ((wu64 (4 * 2^min (Int.toNat (wu64 a)) 64))-(1:Int)))) 64))-(1:Int)))))))
 (cond (decide (a=(2:Int)))
 (ask (decide ((0:Int)<=(wu64 a))) (ask (decide ((0:Int)<=(wu64 ((wu64 (4 * 2^min (Int.toNat (wu64 a)) 64))-(1:Int))))) (K ((wi64 ((0:Int)-(wi64 (1 * 2^min (Int.toNat (wu64 ((wu64 (4 * 2^min (Int.toNat (wu64 a)) 64))-(1:Int)))) 64)))),(wi64 ((wi64 (1 * 2^min (Int.toNat (wu64 ((wu64 (4 * 2^min (Int.toNat (wu64 a)) 64))-(1:Int)))) 64))-(1:Int)))))))
 (cond (decide (a=(3:Int)))
 (ask (decide ((0:Int)<=(wu64 a))) (ask (decide ((0:Int)<=(wu64 ((wu64 (4 * 2^min (Int.toNat (wu64 a)) 64))-(1:Int))))) (K ((wi64 ((0:Int)-(wi64 (1 * 2^min (Int.toNat (wu64 ((wu64 (4 * 2^min (Int.toNat (wu64 a)) 64))-(1:Int)))) 64)))),(wi64 ((wi64 (1 * 2^min (Int.toNat (wu64 ((wu64 (4 * 2^min (Int.toNat (wu64 a)) 64))-(1:Int)))) 64))-(1:Int)))))))
 (K (1,0))))
def f97_m (a:Int):Option (TItv):=f97_c a some
def f97_sp:Spec:=f97_s.sp f97_m
noncomputable def f97_e:Env:=⟨fun k=>[].contains k,callsL [(144,f144_sp)],fun X k s K=>none⟩
theorem f97_ok:OK (2) 97 (f97_s.sp f97_m):=
 fO (d:=1) (env:=f97_e) (callsL_sim (cc f144_ok cn)) (fn:=Tryz.f97) (mc:=@f97_c) (by intros;simp only [f97_m,f97_c,nn]) (locs:=[2])
def f146_s:FS (Int×Int) (TItv) where
 sk:=⟨kI,[],0⟩
 a:=fun u=>(u.1.1,u.1.2.1)
 n:=fun a=>((a.1,(a.2,())),())
 o:=fun Z a r K=>K (.agg [.int .i64 r.1,.int .i64 r.2]) ⟨[],0⟩
def f146_c {X:Type} (a:Int×Int) (K:TItv->Option X):Option X:=
 cond (decide (a.2<a.1))
 (K (1,0))
 (cond (decide ((4611686018427387904:Int)<=a.1))
 (cond (decide (a.2<=(-4611686018427387904:Int)))
 (K ((if (-4611686018427387904)>4611686018427387903 then (-4611686018427387904) else 4611686018427387903),(if 4611686018427387904<(-4611686018427387903) then 4611686018427387904 else (-4611686018427387903))))
 (K ((if (-4611686018427387904)>4611686018427387903 then (-4611686018427387904) else 4611686018427387903),(if 4611686018427387904<a.2 then 4611686018427387904 else a.2))))
 (cond (decide (a.2<=(-4611686018427387904:Int)))
 (K ((if (-4611686018427387904)>a.1 then (-4611686018427387904) else a.1),(if 4611686018427387904<(-4611686018427387903) then 4611686018427387904 else (-4611686018427387903))))
 (K ((if (-4611686018427387904)>a.1 then (-4611686018427387904) else a.1),(if 4611686018427387904<a.2 then 4611686018427387904 else a.2)))))
def f146_m (a:Int×Int):Option (TItv):=f146_c a some
def f146_sp:Spec:=f146_s.sp f146_m
noncomputable def f146_e:Env:=⟨fun k=>[].contains k,callsL [(144,f144_sp)],fun X k s K=>none⟩
theorem f146_ok:OK (2) 146 (f146_s.sp f146_m):=
 fO (d:=1) (env:=f146_e) (callsL_sim (cc f144_ok cn)) (fn:=Tryz.f146) (mc:=@f146_c) (by intros;simp only [f146_m,f146_c,nn]) (locs:=[4])
def f164_s:FS (TItv) (TItv) where
 sk:=⟨(.cons (.agg kI) .nil),[],0⟩
 a:=fun u=>(u.1.1.1,u.1.1.2.1)
 n:=fun a=>(((a.1,(a.2,())),()),())
 o:=fun Z a r K=>K (.agg [.int .i64 r.1,.int .i64 r.2]) ⟨[],0⟩
def f164_c {X:Type} (a:TItv) (K:TItv->Option X):Option X:=
 (f146_m (a.1,a.2)).bind fun r1=>
 K r1
def f164_m (a:TItv):Option (TItv):=f164_c a some
def f164_sp:Spec:=f164_s.sp f164_m
noncomputable def f164_e:Env:=⟨fun k=>[].contains k,callsL [(146,f146_sp)],fun X k s K=>none⟩
theorem f164_ok:OK (3) 164 (f164_s.sp f164_m):=
 fO (d:=2) (env:=f164_e) (callsL_sim (cc f146_ok cn)) (fn:=Tryz.f164) (mc:=@f164_c) (by intros;simp only [f164_m,f164_c,nn]) (locs:=[1,2])
def f143_s:FS (TItv) (Bool) where
 sk:=⟨(.cons (.agg kI) .nil),[],0⟩
 a:=fun u=>(u.1.1.1,u.1.1.2.1)
 n:=fun a=>(((a.1,(a.2,())),()),())
 o:=fun Z a r K=>K (.bool r) ⟨[],0⟩
def f143_c {X:Type} (a:TItv) (K:Bool->Option X):Option X:=
 K (decide (a.2<a.1))
def f143_m (a:TItv):Option (Bool):=f143_c a some
def f143_sp:Spec:=f143_s.sp f143_m
noncomputable def f143_e:Env:=⟨fun k=>[].contains k,callsL [],fun X k s K=>none⟩
theorem f143_ok:OK (1) 143 (f143_s.sp f143_m):=
 fO (d:=0) (env:=f143_e) (callsL_sim cn) (fn:=Tryz.f143) (mc:=@f143_c) (by intros;simp only [f143_m,f143_c,nn]) (locs:=[1])
def f142_s:FS (TItv×TItv) (TItv) where
 sk:=⟨(.cons (.agg kI) (.cons (.agg kI) .nil)),[],0⟩
 a:=fun u=>((u.1.1.1,u.1.1.2.1),(u.1.2.1.1,u.1.2.1.2.1))
 n:=fun a=>(((a.1.1,(a.1.2,())),((a.2.1,(a.2.2,())),())),())
 o:=fun Z a r K=>K (.agg [.int .i64 r.1,.int .i64 r.2]) ⟨[],0⟩
def f142_c {X:Type} (a:TItv×TItv) (K:TItv->Option X):Option X:=
 (f164_m a.1).bind fun r1=>
 (f164_m a.2).bind fun r2=>
 cond (decide (r1.2<r1.1))
 (K (1,0))
 (cond (decide (r2.2<r2.1))
 (K (1,0))
 ((f146_m ((if r2.1>r1.1 then r2.1 else r1.1),(if r2.2<r1.2 then r2.2 else r1.2))).bind fun r3=>
 K r3))
def f142_m (a:TItv×TItv):Option (TItv):=f142_c a some
def f142_sp:Spec:=f142_s.sp f142_m
noncomputable def f142_e:Env:=⟨fun k=>[].contains k,callsL [(164,f164_sp),(143,f143_sp),(144,f144_sp),(146,f146_sp)],fun X k s K=>none⟩
theorem f142_ok:OK (4) 142 (f142_s.sp f142_m):=
 fO (d:=3) (env:=f142_e) (callsL_sim (cc f164_ok (cc f143_ok (cc f144_ok (cc f146_ok cn))))) (fn:=Tryz.f142) (mc:=@f142_c) (by intros;simp only [f142_m,f142_c,nn]) (locs:=[2,3,4])
def f145_s:FS (TItv×Int) (Bool) where
 sk:=⟨(.cons (.agg kI) (.cons (.int .i64) .nil)),[],0⟩
 a:=fun u=>((u.1.1.1,u.1.1.2.1),u.1.2.1)
 n:=fun a=>(((a.1.1,(a.1.2,())),(a.2,())),())
 o:=fun Z a r K=>K (.bool r) ⟨[],0⟩
def f145_c {X:Type} (a:TItv×Int) (K:Bool->Option X):Option X:=
 (f164_m a.1).bind fun r1=>
 cond (!(decide (r1.2<r1.1)))
 (cond (decide (r1.1=(-4611686018427387904:Int)))
 (cond (decide (r1.2=(4611686018427387904:Int)))
 (K true)
 (K (decide (a.2<=r1.2))))
 (cond (decide (r1.1<=a.2))
 (cond (decide (r1.2=(4611686018427387904:Int)))
 (K true)
 (K (decide (a.2<=r1.2))))
 (K false)))
 (K false)
def f145_m (a:TItv×Int):Option (Bool):=f145_c a some
def f145_sp:Spec:=f145_s.sp f145_m
noncomputable def f145_e:Env:=⟨fun k=>[].contains k,callsL [(164,f164_sp),(143,f143_sp)],fun X k s K=>none⟩
theorem f145_ok:OK (4) 145 (f145_s.sp f145_m):=
 fO (d:=3) (env:=f145_e) (callsL_sim (cc f164_ok (cc f143_ok cn))) (fn:=Tryz.f145) (mc:=@f145_c) (by intros;simp only [f145_m,f145_c,nn]) (locs:=[2])
def f96_s:FS (TCongr×TItv) (TCongr×TItv) where
 sk:=⟨(.cons (.agg kC) (.cons (.agg kI) .nil)),[],0⟩
 a:=fun u=>((q3 u.1.1),(u.1.2.1.1,u.1.2.1.2.1))
 n:=fun a=>(((w3 a.1),((a.2.1,(a.2.2,())),())),())
 o:=fun Z a r K=>K (.tup [.agg [.bool r.1.1,.int .i64 r.1.2.1,.int .i64 r.1.2.2],.agg [.int .i64 r.2.1,.int .i64 r.2.2]]) ⟨[],0⟩
def f96_c {X:Type} (a:TCongr×TItv) (K:(TCongr×TItv)->Option X):Option X:=
 (f97_m 3).bind fun r1=>
 (f142_m (a.2,r1)).bind fun r2=>
 cond a.1.1
 (K ((true,(0,0)),(1,0)))
 (cond (decide (r2.2<r2.1))
 (K ((true,(0,0)),(1,0)))
 (cond (decide (a.1.2.1=(0:Int)))
 ((f145_m (r2,a.1.2.2)).bind fun r3=>
 cond (!r3)
 (K ((true,(0,0)),(1,0)))
 ((f146_m (a.1.2.2,a.1.2.2)).bind fun r4=>
 K (a.1,r4)))
 ((f117_m ((wi64 (a.1.2.2-r2.1)),(wu64 a.1.2.1))).bind fun r5=>
 (f117_m ((wi64 (r2.2-a.1.2.2)),(wu64 a.1.2.1))).bind fun r6=>
 cond (decide ((wi64 (r2.2-(wi64 r6)))<(wi64 (r2.1+(wi64 r5)))))
 (K ((true,(0,0)),(1,0)))
 (cond (decide ((wi64 (r2.1+(wi64 r5)))=(wi64 (r2.2-(wi64 r6)))))
 ((f127_m (wi64 (r2.1+(wi64 r5)))).bind fun r7=>
 (f146_m ((wi64 (r2.1+(wi64 r5))),(wi64 (r2.1+(wi64 r5))))).bind fun r8=>
 K ((r7.1,(0,r7.2)),r8))
 ((f146_m ((wi64 (r2.1+(wi64 r5))),(wi64 (r2.2-(wi64 r6))))).bind fun r9=>
 K (a.1,r9))))))
def f96_m (a:TCongr×TItv):Option (TCongr×TItv):=f96_c a some
def f96_sp:Spec:=f96_s.sp f96_m
noncomputable def f96_e:Env:=⟨fun k=>[].contains k,callsL [(97,f97_sp),(142,f142_sp),(124,f124_sp),(144,f144_sp),(143,f143_sp),(145,f145_sp),(146,f146_sp),(117,f117_sp),(127,f127_sp)],fun X k s K=>none⟩
theorem f96_ok:OK (5) 96 (f96_s.sp f96_m):=
 fO (d:=4) (env:=f96_e) (callsL_sim (cc f97_ok (cc f142_ok (cc f124_ok (cc f144_ok (cc f143_ok (cc f145_ok (cc f146_ok (cc f117_ok (cc f127_ok cn)))))))))) (fn:=Tryz.f96) (mc:=@f96_c) (by intros;simp only [f96_m,f96_c,nn]) (locs:=[2,3,4,5])
def f50_s:FS (TCongr×Int) (TCongr) where
 sk:=⟨(.cons (.agg kC) (.cons (.int .i64) .nil)),[],0⟩
 a:=fun u=>((q3 u.1.1),u.1.2.1)
 n:=fun a=>(((w3 a.1),(a.2,())),())
 o:=fun Z a r K=>K (.agg [.bool r.1,.int .i64 r.2.1,.int .i64 r.2.2]) ⟨[],0⟩
def f50_c {X:Type} (a:TCongr×Int) (K:TCongr->Option X):Option X:=
 (f97_m a.2).bind fun r1=>
 (f96_m (a.1,r1)).bind fun r2=>
 K r2.1
def f50_m (a:TCongr×Int):Option (TCongr):=f50_c a some
def f50_sp:Spec:=f50_s.sp f50_m
noncomputable def f50_e:Env:=⟨fun k=>[].contains k,callsL [(97,f97_sp),(96,f96_sp)],fun X k s K=>none⟩
theorem f50_ok:OK (6) 50 (f50_s.sp f50_m):=
 fO (d:=5) (env:=f50_e) (callsL_sim (cc f97_ok (cc f96_ok cn))) (fn:=Tryz.f50) (mc:=@f50_c) (by intros;simp only [f50_m,f50_c,nn]) (locs:=[2,4])
def f100_s:FS (Int) (Int) where
 sk:=⟨(.cons (.int .i64) .nil),[],0⟩
 a:=fun u=>u.1.1
 n:=fun a=>((a,()),())
 o:=fun Z a r K=>K (.int .i64 r) ⟨[],0⟩
def f100_c {X:Type} (a:Int) (K:Int->Option X):Option X:=
 cond (decide ((wi64 (a-(14:Int)))=(0:Int)))
 (K 15)
 (cond (decide ((wi64 (a-(14:Int)))=(1:Int)))
 (K 14)
 (cond (decide ((wi64 (a-(14:Int)))=(2:Int)))
 (K 19)
 (cond (decide ((wi64 (a-(14:Int)))=(3:Int)))
 (K 18)
 (cond (decide ((wi64 (a-(14:Int)))=(4:Int)))
 (K 17)
 (cond (decide ((wi64 (a-(14:Int)))=(5:Int)))
 (K 16)
 (none))))))
def f100_m (a:Int):Option (Int):=f100_c a some
def f100_sp:Spec:=f100_s.sp f100_m
noncomputable def f100_e:Env:=⟨fun k=>[].contains k,callsL [],fun X k s K=>none⟩
theorem f100_ok:OK (1) 100 (f100_s.sp f100_m):=
 fO (d:=0) (env:=f100_e) (callsL_sim cn) (fn:=Tryz.f100) (mc:=@f100_c) (by intros;simp only [f100_m,f100_c,nn])
def f147_s:FS (Int×Int×Int) (Bool) where
 sk:=⟨(.cons (.int .i64) kI),[],0⟩
 a:=fun u=>(u.1.1,u.1.2.1,u.1.2.2.1)
 n:=fun a=>((w3 a),())
 o:=fun Z a r K=>K (.bool r) ⟨[],0⟩
def f147_c {X:Type} (a:Int×Int×Int) (K:Bool->Option X):Option X:=
 cond (decide (a.1=(14:Int)))
 (K (decide (a.2.1=a.2.2)))
 (cond (decide (a.1=(15:Int)))
 (K (!(decide (a.2.1=a.2.2))))
 (cond (decide (a.1=(16:Int)))
 (K (decide (a.2.1<a.2.2)))
 (cond (decide (a.1=(17:Int)))
 (K (decide (a.2.1<=a.2.2)))
 (cond (decide (a.1=(18:Int)))
 (K (decide (a.2.2<a.2.1)))
 (K (decide (a.2.2<=a.2.1)))))))
def f147_m (a:Int×Int×Int):Option (Bool):=f147_c a some
def f147_sp:Spec:=f147_s.sp f147_m
noncomputable def f147_e:Env:=⟨fun k=>[].contains k,callsL [],fun X k s K=>none⟩
theorem f147_ok:OK (1) 147 (f147_s.sp f147_m):=
 fO (d:=0) (env:=f147_e) (callsL_sim cn) (fn:=Tryz.f147) (mc:=@f147_c) (by intros;simp only [f147_m,f147_c,nn])
def f64_s:FS (TCongr×Int) (Bool) where
 sk:=⟨(.cons (.agg kC) (.cons (.int .i64) .nil)),[],0⟩
 a:=fun u=>((q3 u.1.1),u.1.2.1)
 n:=fun a=>(((w3 a.1),(a.2,())),())
 o:=fun Z a r K=>K (.bool r) ⟨[],0⟩
def f64_c {X:Type} (a:TCongr×Int) (K:Bool->Option X):Option X:=
 cond a.1.1
 (K false)
 (cond (decide (a.2<(-2147483648:Int)))
 (K false)
 (cond (decide ((2147483647:Int)<a.2))
 (K false)
 (cond (decide (a.1.2.1=(0:Int)))
 (K (decide (a.2=a.1.2.2)))
 ((f117_m (a.2,(wu64 a.1.2.1))).bind fun r1=>
 K (decide (r1=(wu64 a.1.2.2)))))))
def f64_m (a:TCongr×Int):Option (Bool):=f64_c a some
def f64_sp:Spec:=f64_s.sp f64_m
noncomputable def f64_e:Env:=⟨fun k=>[].contains k,callsL [(117,f117_sp)],fun X k s K=>none⟩
theorem f64_ok:OK (3) 64 (f64_s.sp f64_m):=
 fO (d:=2) (env:=f64_e) (callsL_sim (cc f117_ok cn)) (fn:=Tryz.f64) (mc:=@f64_c) (by intros;simp only [f64_m,f64_c,nn]) (locs:=[2])
def f149_s:FS (Int×Int) (Int) where
 sk:=⟨(.cons (.int .u64) (.cons (.int .u64) .nil)),[],0⟩
 a:=fun u=>(u.1.1,u.1.2.1)
 n:=fun a=>((a.1,(a.2,())),())
 o:=fun Z a r K=>K (.int .u64 r) ⟨[],0⟩
def f149_l2:LD (Int) (Int×Int×Int×Int) (Int) where
 sk:=⟨[(1,.v (.int .u64)),(5,.v (.int .i64)),(6,.v (.int .i64)),(7,.v (.int .i64)),(8,.v (.int .i64))],[],[],0,0⟩
 p:=fun u=>u.1.1
 t:=fun u=>(u.1.2.1,u.1.2.2.1,u.1.2.2.2.1,u.1.2.2.2.2.1)
 n:=fun p t=>((p,(w4 t)),((),()))
 st:=fun Y p t ki ke=>cond (!(decide (t.2.2.2=(0:Int))))
  (cond (decide (t.2.2.2=(0:Int)))
  (none)
  (ki (t.2.1,(wi64 (t.1-(wi64 ((wi64 (Int.tdiv t.2.2.1 t.2.2.2)) * t.2.1)))),t.2.2.2,(wi64 (t.2.2.1-(wi64 ((wi64 (Int.tdiv t.2.2.1 t.2.2.2)) * t.2.2.2)))))))
  (ke (t.1))
 o:=fun Z p e K=>K (.exit 0) ⟨[(1,.v (.int .u64 p)),(5,.v (.int .i64 e))],[],⟨[],0⟩,0⟩
 pol:=⟨[1,5,6,7,8],[],[],[]⟩
 pe:=[(.exit 0,⟨[1,5],[],[],[]⟩)]
def f149_c {X:Type} (a:Int×Int) (K:Int->Option X):Option X:=
 (loopAll (f149_l2.m a.2) (1,0,(wi64 a.1),(wi64 a.2))).bind fun e1=>
 (f117_m (e1,a.2)).bind fun r2=>
 K r2
def f149_m (a:Int×Int):Option (Int):=f149_c a some
def f149_sp:Spec:=f149_s.sp f149_m
noncomputable def f149_e:Env:=⟨fun k=>[].contains k,callsL [(117,f117_sp)],fun X k s K=>if k=2 then f149_l2.q X s K else none⟩
noncomputable def f149_l2_c:Code:=subAt [1,1,0,0,0] (bodyOf Tryz.f149)
theorem f149_l2_ok (hc:SimCall C f149_e.call):LoopSim f149_e.loop (vc par C true [] 34) (.loop f149_l2_c):=
 lO hc f149_l2 (by intros;simp only [f149_l2,LD.m,nn])
theorem f149_ok:OK (3) 149 (f149_s.sp f149_m):=
 fO (d:=2) (env:=f149_e) (callsL_sim (cc f117_ok cn)) (fn:=Tryz.f149) (mc:=@f149_c) (by intros;simp only [f149_m,f149_c,nn]) (hl:=fun hc=>(lp_of (by kernel_rfl) (lp_cons (f149_l2_ok hc) lp_nil)))
def f102_s:FS (TCongr×TCongr) (TCongr) where
 sk:=⟨(.cons (.agg kC) (.cons (.agg kC) .nil)),[],0⟩
 a:=fun u=>((q3 u.1.1),(q3 u.1.2.1))
 n:=fun a=>(((w3 a.1),((w3 a.2),())),())
 o:=fun Z a r K=>K (.agg [.bool r.1,.int .i64 r.2.1,.int .i64 r.2.2]) ⟨[],0⟩
def f102_c {X:Type} (a:TCongr×TCongr) (K:TCongr->Option X):Option X:=
 cond a.1.1
 (K (true,(0,0)))
 (cond a.2.1
 (K (true,(0,0)))
 (cond (decide (a.1.2.1=(0:Int)))
 (cond (!(decide (a.1.2.1=(0:Int))))
 ((f64_m (a.1,a.2.2.2)).bind fun r1=>
 cond r1
 (K a.2)
 (K (true,(0,0))))
 ((f64_m (a.2,a.1.2.2)).bind fun r2=>
 cond r2
 (K a.1)
 (K (true,(0,0)))))
 (cond (decide (a.2.2.1=(0:Int)))
 (cond (!(decide (a.1.2.1=(0:Int))))
 ((f64_m (a.1,a.2.2.2)).bind fun r3=>
 cond r3
 (K a.2)
 (K (true,(0,0))))
 ((f64_m (a.2,a.1.2.2)).bind fun r4=>
 cond r4
 (K a.1)
 (K (true,(0,0)))))
 ((f128_m ((wu64 a.1.2.1),(wu64 a.2.2.1))).bind fun r5=>
 (f129_m (wi64 (a.1.2.2-a.2.2.2))).bind fun r6=>
 cond (decide (r5=(0:Int)))
 (none)
 (cond (!(decide ((Int.tmod r6 r5)=(0:Int))))
 (K (true,(0,0)))
 (cond (decide (r5=(0:Int)))
 (none)
 (cond (decide ((1:Int)<(wu64 (Int.tdiv (wu64 a.2.2.1) r5))))
 (cond (decide ((wi64 r5)=(0:Int)))
 (none)
 (cond (decide (r5=(0:Int)))
 (none)
 ((f117_m ((wi64 (Int.tdiv (wi64 (a.2.2.2-a.1.2.2)) (wi64 r5))),(wu64 (Int.tdiv (wu64 a.2.2.1) r5)))).bind fun r7=>
 cond (decide (r5=(0:Int)))
 (none)
 (cond (decide (r5=(0:Int)))
 (none)
 (cond (decide ((wu64 (Int.tdiv (wu64 a.2.2.1) r5))=(0:Int)))
 (none)
 (cond (decide (r5=(0:Int)))
 (none)
 ((f149_m ((Int.tmod (wu64 (Int.tdiv (wu64 a.1.2.1) r5)) (wu64 (Int.tdiv (wu64 a.2.2.1) r5))),(wu64 (Int.tdiv (wu64 a.2.2.1) r5)))).bind fun r8=>
 cond (decide (r5=(0:Int)))
 (none)
 ((f131_m (((wu64 ((wu64 ((wu64 ((Int.fdiv r7 (2^min 32 64)) * (Int.fdiv r8 (2^min 32 64))))+(Int.fdiv (wu64 ((wu64 ((Int.fdiv r7 (2^min 32 64)) * (bits_and .u64 r8 4294967295)))+(Int.fdiv (wu64 ((bits_and .u64 r7 4294967295) * (bits_and .u64 r8 4294967295))) (2^min 32 64)))) (2^min 32 64))))+(Int.fdiv (wu64 ((bits_and .u64 (wu64 ((wu64 ((Int.fdiv r7 (2^min 32 64)) * (bits_and .u64 r8 4294967295)))+(Int.fdiv (wu64 ((bits_and .u64 r7 4294967295) * (bits_and .u64 r8 4294967295))) (2^min 32 64)))) 4294967295)+(wu64 ((bits_and .u64 r7 4294967295) * (Int.fdiv r8 (2^min 32 64)))))) (2^min 32 64)))),(wu64 (r7 * r8))),(wu64 (Int.tdiv (wu64 a.2.2.1) r5)))).bind fun r9=>
 cond (decide (r5=(0:Int)))
 (none)
 ((f132_m ((wu64 ((wu64 a.1.2.1) * (wu64 (Int.tdiv (wu64 a.2.2.1) r5)))),(wu64 ((wu64 ((wu64 a.1.2.1) * r9))+(wu64 a.1.2.2))))).bind fun r10=>
 K r10)))))))))
 (cond (decide (r5=(0:Int)))
 (none)
 ((f132_m ((wu64 ((wu64 a.1.2.1) * (wu64 (Int.tdiv (wu64 a.2.2.1) r5)))),(wu64 ((wu64 ((wu64 a.1.2.1) * (0:Int)))+(wu64 a.1.2.2))))).bind fun r11=>
 K r11)))))))))
def f102_m (a:TCongr×TCongr):Option (TCongr):=f102_c a some
def f102_sp:Spec:=f102_s.sp f102_m
noncomputable def f102_e:Env:=⟨fun k=>[].contains k,callsL [(124,f124_sp),(64,f64_sp),(128,f128_sp),(129,f129_sp),(117,f117_sp),(149,f149_sp),(148,f148_sp),(131,f131_sp),(132,f132_sp)],fun X k s K=>none⟩
theorem f102_ok:OK (6) 102 (f102_s.sp f102_m):=
 fO (d:=5) (env:=f102_e) (callsL_sim (cc f124_ok (cc f64_ok (cc f128_ok (cc f129_ok (cc f117_ok (cc f149_ok (cc f148_ok (cc f131_ok (cc f132_ok cn)))))))))) (fn:=Tryz.f102) (mc:=@f102_c) (by intros;simp only [f102_m,f102_c,nn]) (locs:=[2,3,4])
def f101_s:FS (Int×TCongr×TCongr) (TCongr×TCongr) where
 sk:=⟨(.cons (.int .i64) (.cons (.agg kC) (.cons (.agg kC) .nil))),[],0⟩
 a:=fun u=>(u.1.1,(q3 u.1.2.1),(q3 u.1.2.2.1))
 n:=fun a=>((a.1,((w3 a.2.1),((w3 a.2.2),()))),())
 o:=fun Z a r K=>K (.tup [.agg [.bool r.1.1,.int .i64 r.1.2.1,.int .i64 r.1.2.2],.agg [.bool r.2.1,.int .i64 r.2.2.1,.int .i64 r.2.2.2]]) ⟨[],0⟩
def f101_c {X:Type} (a:Int×TCongr×TCongr) (K:(TCongr×TCongr)->Option X):Option X:=
 cond (decide (a.1<(14:Int)))
 (K (a.2.1,a.2.2))
 (cond (decide ((19:Int)<a.1))
 (K (a.2.1,a.2.2))
 (cond a.2.1.1
 (K ((true,(0,0)),(true,(0,0))))
 (cond a.2.2.1
 (K ((true,(0,0)),(true,(0,0))))
 (cond (decide (a.2.1.2.1=(0:Int)))
 (cond (decide (a.2.2.2.1=(0:Int)))
 ((f147_m (a.1,a.2.1.2.2,a.2.2.2.2)).bind fun r1=>
 cond (!r1)
 (K ((true,(0,0)),(true,(0,0))))
 (cond (decide (a.1=(14:Int)))
 ((f102_m (a.2.1,a.2.2)).bind fun r2=>
 K (r2,r2))
 (K (a.2.1,a.2.2))))
 (cond (decide (a.1=(14:Int)))
 ((f102_m (a.2.1,a.2.2)).bind fun r3=>
 K (r3,r3))
 (K (a.2.1,a.2.2))))
 (cond (decide (a.1=(14:Int)))
 ((f102_m (a.2.1,a.2.2)).bind fun r4=>
 K (r4,r4))
 (K (a.2.1,a.2.2)))))))
def f101_m (a:Int×TCongr×TCongr):Option (TCongr×TCongr):=f101_c a some
def f101_sp:Spec:=f101_s.sp f101_m
noncomputable def f101_e:Env:=⟨fun k=>[].contains k,callsL [(124,f124_sp),(147,f147_sp),(102,f102_sp)],fun X k s K=>none⟩
theorem f101_ok:OK (7) 101 (f101_s.sp f101_m):=
 fO (d:=6) (env:=f101_e) (callsL_sim (cc f124_ok (cc f147_ok (cc f102_ok cn)))) (fn:=Tryz.f101) (mc:=@f101_c) (by intros;simp only [f101_m,f101_c,nn]) (locs:=[4,5,6,7,8])
def f52_s:FS (TInstr×Int×Bool×TGraph×TMods×(List (Int×TInstr))×(List (Int×TCongr))×(List TCongr)×(List TCongr)) (TMods×(List (Int×TCongr))) where
 sk:=⟨(.cons (.ptr 0 0) (.cons (.agg kN) (.cons (.int .i64) (.cons (.agg (.cons .bool (.cons (.all 4) (.cons (.all 5) .nil)))) .nil)))),[.opn (.cons (.lit cInstr) (.cons (.int .i64) (.cons (.int .i64) (.cons (.int .i64) (.cons (.lit cArray) (.cons (.lit cScalar) (.cons (.lit cArray) (.cons (.lit cItv) (.cons .bool (.cons (.lit cCongr) (.cons (.lit cCongr) (.cons (.mp 1) (.cons (.mp 2) (.cons (.mp 3) .nil)))))))))))))),.mapT (.int .i64) true cInstr,.mapT (.int .i64) true cCongr,.mapL (.int .i64) [((2:Int),(.fn 85 .nil)),((3:Int),(.fn 87 .nil)),((4:Int),(.fn 89 .nil)),((5:Int),(.fn 90 .nil)),((6:Int),(.fn 91 .nil)),((7:Int),(.fn 92 .nil)),((8:Int),(.fn 93 .nil)),((9:Int),(.fn 83 .nil)),((10:Int),(.fn 83 .nil))],.cells cCongr,.cells cCongr],0⟩
 a:=fun u=>((q8 u.1.2.1),u.1.2.2.1,u.1.2.2.2.1.1,(q8 u.2.1),(q3 u.2.1.2.2.2.2.2.2.2.2),u.2.2.1,u.2.2.2.1,u.2.2.2.2.2.1,u.2.2.2.2.2.2.1)
 n:=fun a=>(((),((w8 a.1),(a.2.1,((a.2.2.1,((),((),()))),())))),((a.2.2.2.1.1,(a.2.2.2.1.2.1,(a.2.2.2.1.2.2.1,(a.2.2.2.1.2.2.2.1,(a.2.2.2.1.2.2.2.2.1,(a.2.2.2.1.2.2.2.2.2.1,(a.2.2.2.1.2.2.2.2.2.2.1,(a.2.2.2.1.2.2.2.2.2.2.2,(a.2.2.2.2.1.1,(a.2.2.2.2.1.2.1,(a.2.2.2.2.1.2.2,((),((),((),())))))))))))))),(a.2.2.2.2.2.1,(a.2.2.2.2.2.2.1,(((),((),((),((),((),((),((),((),((),()))))))))),(a.2.2.2.2.2.2.2.1,(a.2.2.2.2.2.2.2.2,())))))))
 o:=fun Z a r K=>K (.agg [.bool r.1.1,.lit cCongr r.1.2.1,.lit cCongr r.1.2.2]) ⟨[.opn [.lit cInstr a.2.2.2.1.1,.int .i64 a.2.2.2.1.2.1,.int .i64 a.2.2.2.1.2.2.1,.int .i64 a.2.2.2.1.2.2.2.1,.lit cArray a.2.2.2.1.2.2.2.2.1,.lit cScalar a.2.2.2.1.2.2.2.2.2.1,.lit cArray a.2.2.2.1.2.2.2.2.2.2.1,.lit cItv a.2.2.2.1.2.2.2.2.2.2.2,.bool a.2.2.2.2.1.1,.lit cCongr a.2.2.2.2.1.2.1,.lit cCongr a.2.2.2.2.1.2.2,.mp 1,.mp 2,.mp 3],.mapT (.int .i64) true cInstr a.2.2.2.2.2.1,.mapT (.int .i64) true cCongr r.2,.mapL (.int .i64) [((2:Int),.fn 85 []),((3:Int),.fn 87 []),((4:Int),.fn 89 []),((5:Int),.fn 90 []),((6:Int),.fn 91 []),((7:Int),.fn 92 []),((8:Int),.fn 93 []),((9:Int),.fn 83 []),((10:Int),.fn 83 [])],.dead,.dead],0⟩
def f52_l8:LD (Int×Int×Bool×Bool×(TCongr×TCongr)×TGraph×TMods×(List (Int×TInstr))×(List (Int×TCongr))×(List TCongr)) (Int×(List TCongr)) (((List TCongr)) ⊕ ((List TCongr))) where
 sk:=⟨[(0,.v (.ptr 0 0)),(7,.loc 0 0),(8,.loc 1 0),(10,.loc 2 0),(11,.loc 3 0),(44,.v (.agg kI)),(45,.v (.int .i64))],[(.cons .bool (.cons (.all 4) (.cons (.all 5) .nil))),(.cons .bool (.cons .nils (.cons .nils .nil))),kC,kC],[.opn (.cons (.lit cInstr) (.cons (.int .i64) (.cons (.int .i64) (.cons (.int .i64) (.cons (.lit cArray) (.cons (.lit cScalar) (.cons (.lit cArray) (.cons (.lit cItv) (.cons .bool (.cons (.lit cCongr) (.cons (.lit cCongr) (.cons (.mp 1) (.cons (.mp 2) (.cons (.mp 3) .nil)))))))))))))),.mapT (.int .i64) true cInstr,.mapT (.int .i64) true cCongr,.mapL (.int .i64) [((2:Int),(.fn 85 .nil)),((3:Int),(.fn 87 .nil)),((4:Int),(.fn 89 .nil)),((5:Int),(.fn 90 .nil)),((6:Int),(.fn 91 .nil)),((7:Int),(.fn 92 .nil)),((8:Int),(.fn 93 .nil)),((9:Int),(.fn 83 .nil)),((10:Int),(.fn 83 .nil))],.cells cCongr,.cells cCongr],0,6⟩
 p:=fun u=>(u.1.2.1.1,u.1.2.1.2.1,u.2.1.1.1,u.2.1.2.1.1,((q3 u.2.1.2.2.1),(q3 u.2.1.2.2.2.1)),(q8 u.2.2.1),(q3 u.2.2.1.2.2.2.2.2.2.2.2),u.2.2.2.1,u.2.2.2.2.1,u.2.2.2.2.2.2.2.1)
 t:=fun u=>(u.1.2.2.1,u.2.2.2.2.2.2.1)
 n:=fun p t=>(((),((p.1,(p.2.1,())),(t.1,()))),(((p.2.2.1,((),((),()))),((p.2.2.2.1,((),((),()))),((w3 p.2.2.2.2.1.1),((w3 p.2.2.2.2.1.2),())))),((p.2.2.2.2.2.1.1,(p.2.2.2.2.2.1.2.1,(p.2.2.2.2.2.1.2.2.1,(p.2.2.2.2.2.1.2.2.2.1,(p.2.2.2.2.2.1.2.2.2.2.1,(p.2.2.2.2.2.1.2.2.2.2.2.1,(p.2.2.2.2.2.1.2.2.2.2.2.2.1,(p.2.2.2.2.2.1.2.2.2.2.2.2.2,(p.2.2.2.2.2.2.1.1,(p.2.2.2.2.2.2.1.2.1,(p.2.2.2.2.2.2.1.2.2,((),((),((),())))))))))))))),(p.2.2.2.2.2.2.2.1,(p.2.2.2.2.2.2.2.2.1,(((),((),((),((),((),((),((),((),((),()))))))))),(t.2,(p.2.2.2.2.2.2.2.2.2,()))))))))
 st:=fun Y p t ki ke=>cond (decide (t.1<(2:Int)))
  (cond (decide (t.1=(0:Int)))
  (cond (decide (p.1<(nt (List.length p.2.2.2.2.2.1.2.2.2.2.2.1))))
  (ask (V.inRange p.1 (List.length t.2)) (cond (decide (t.1=(0:Int)))
  ((f102_m ((gx t.2 (Int.toNat p.1) dCongr),p.2.2.2.2.1.1)).bind fun r1=>
  ask (V.inRange p.1 (List.length t.2)) (ask (V.inRange p.1 (List.length (List.set t.2 (Int.toNat p.1) r1))) (cond (gx (List.set t.2 (Int.toNat p.1) r1) (Int.toNat p.1) dCongr).1
  (ke (.inl (List.set t.2 (Int.toNat p.1) r1)))
  (ki ((wi64 (t.1+(1:Int))),(List.set t.2 (Int.toNat p.1) r1))))))
  (cond (decide (t.1=(1:Int)))
  ((f102_m ((gx t.2 (Int.toNat p.1) dCongr),p.2.2.2.2.1.2)).bind fun r2=>
  ask (V.inRange p.1 (List.length t.2)) (ask (V.inRange p.1 (List.length (List.set t.2 (Int.toNat p.1) r2))) (cond (gx (List.set t.2 (Int.toNat p.1) r2) (Int.toNat p.1) dCongr).1
  (ke (.inl (List.set t.2 (Int.toNat p.1) r2)))
  (ki ((wi64 (t.1+(1:Int))),(List.set t.2 (Int.toNat p.1) r2))))))
  (none))))
  (ki ((wi64 (t.1+(1:Int))),t.2)))
  (cond (decide (t.1=(1:Int)))
  (cond (decide (p.2.1<(nt (List.length p.2.2.2.2.2.1.2.2.2.2.2.1))))
  (ask (V.inRange p.2.1 (List.length t.2)) (cond (decide (t.1=(0:Int)))
  ((f102_m ((gx t.2 (Int.toNat p.2.1) dCongr),p.2.2.2.2.1.1)).bind fun r3=>
  ask (V.inRange p.2.1 (List.length t.2)) (ask (V.inRange p.2.1 (List.length (List.set t.2 (Int.toNat p.2.1) r3))) (cond (gx (List.set t.2 (Int.toNat p.2.1) r3) (Int.toNat p.2.1) dCongr).1
  (ke (.inl (List.set t.2 (Int.toNat p.2.1) r3)))
  (ki ((wi64 (t.1+(1:Int))),(List.set t.2 (Int.toNat p.2.1) r3))))))
  (cond (decide (t.1=(1:Int)))
  ((f102_m ((gx t.2 (Int.toNat p.2.1) dCongr),p.2.2.2.2.1.2)).bind fun r4=>
  ask (V.inRange p.2.1 (List.length t.2)) (ask (V.inRange p.2.1 (List.length (List.set t.2 (Int.toNat p.2.1) r4))) (cond (gx (List.set t.2 (Int.toNat p.2.1) r4) (Int.toNat p.2.1) dCongr).1
  (ke (.inl (List.set t.2 (Int.toNat p.2.1) r4)))
  (ki ((wi64 (t.1+(1:Int))),(List.set t.2 (Int.toNat p.2.1) r4))))))
  (none))))
  (ki ((wi64 (t.1+(1:Int))),t.2)))
  (none)))
  (ke (.inr (t.2)))
 o:=fun Z p e K=>Sum.elim (fun e=>K .ret ⟨[(8,.loc 0 0)],[[.bool false,.nils,.nils]],⟨[.opn [.lit cInstr p.2.2.2.2.2.1.1,.int .i64 p.2.2.2.2.2.1.2.1,.int .i64 p.2.2.2.2.2.1.2.2.1,.int .i64 p.2.2.2.2.2.1.2.2.2.1,.lit cArray p.2.2.2.2.2.1.2.2.2.2.1,.lit cScalar p.2.2.2.2.2.1.2.2.2.2.2.1,.lit cArray p.2.2.2.2.2.1.2.2.2.2.2.2.1,.lit cItv p.2.2.2.2.2.1.2.2.2.2.2.2.2,.bool p.2.2.2.2.2.2.1.1,.lit cCongr p.2.2.2.2.2.2.1.2.1,.lit cCongr p.2.2.2.2.2.2.1.2.2,.mp 1,.mp 2,.mp 3],.mapT (.int .i64) true cInstr p.2.2.2.2.2.2.2.1,.mapT (.int .i64) true cCongr p.2.2.2.2.2.2.2.2.1,.mapL (.int .i64) [((2:Int),.fn 85 []),((3:Int),.fn 87 []),((4:Int),.fn 89 []),((5:Int),.fn 90 []),((6:Int),.fn 91 []),((7:Int),.fn 92 []),((8:Int),.fn 93 []),((9:Int),.fn 83 []),((10:Int),.fn 83 [])],.cells cCongr e,.cells cCongr p.2.2.2.2.2.2.2.2.2],0⟩,6⟩) (fun e=>K (.exit 0) ⟨[(7,.loc 0 0),(8,.loc 1 0)],[[.bool p.2.2.1,.all 4,.all 5],[.bool p.2.2.2.1,.nils,.nils]],⟨[.opn [.lit cInstr p.2.2.2.2.2.1.1,.int .i64 p.2.2.2.2.2.1.2.1,.int .i64 p.2.2.2.2.2.1.2.2.1,.int .i64 p.2.2.2.2.2.1.2.2.2.1,.lit cArray p.2.2.2.2.2.1.2.2.2.2.1,.lit cScalar p.2.2.2.2.2.1.2.2.2.2.2.1,.lit cArray p.2.2.2.2.2.1.2.2.2.2.2.2.1,.lit cItv p.2.2.2.2.2.1.2.2.2.2.2.2.2,.bool p.2.2.2.2.2.2.1.1,.lit cCongr p.2.2.2.2.2.2.1.2.1,.lit cCongr p.2.2.2.2.2.2.1.2.2,.mp 1,.mp 2,.mp 3],.mapT (.int .i64) true cInstr p.2.2.2.2.2.2.2.1,.mapT (.int .i64) true cCongr p.2.2.2.2.2.2.2.2.1,.mapL (.int .i64) [((2:Int),.fn 85 []),((3:Int),.fn 87 []),((4:Int),.fn 89 []),((5:Int),.fn 90 []),((6:Int),.fn 91 []),((7:Int),.fn 92 []),((8:Int),.fn 93 []),((9:Int),.fn 83 []),((10:Int),.fn 83 [])],.cells cCongr e,.cells cCongr p.2.2.2.2.2.2.2.2.2],0⟩,6⟩) e
 pol:=⟨[0,7,8,10,11,44,45],[],[],[]⟩
 pe:=[(.ret,⟨[8],[],[],[]⟩),(.exit 0,⟨[7,8],[],[],[]⟩)]
def f52_c {X:Type} (a:TInstr×Int×Bool×TGraph×TMods×(List (Int×TInstr))×(List (Int×TCongr))×(List TCongr)×(List TCongr)) (K:(TMods×(List (Int×TCongr)))->Option X):Option X:=
 cond (decide (a.2.1=(1:Int)))
 ((f100_m a.1.2.2.2.2.1).bind fun r1=>
 (Rec47.m (a.1.2.2.1,a.2.2.2.1,a.2.2.2.2.1,a.2.2.2.2.2.1,a.2.2.2.2.2.2.1)).bind fun r2=>
 (Rec47.m (a.1.2.2.2.1,a.2.2.2.1,a.2.2.2.2.1,a.2.2.2.2.2.1,r2.2)).bind fun r3=>
 (f101_m (r1,r2.1,r3.1)).bind fun r4=>
 cond r4.1.1
 (cond r4.2.1
 (K ((false,([],[])),r3.2))
 ((loopAll (f52_l8.m (a.1.2.2.1,a.1.2.2.2.1,a.2.2.1,false,r4,a.2.2.2.1,a.2.2.2.2.1,a.2.2.2.2.2.1,r3.2,a.2.2.2.2.2.2.2.2)) (0,a.2.2.2.2.2.2.2.1)).bind fun e5=>
 Sum.elim (fun e6=>K ((false,([],[])),r3.2))
 (fun e7=>K ((a.2.2.1,(e7,a.2.2.2.2.2.2.2.2)),r3.2)) e5))
 ((loopAll (f52_l8.m (a.1.2.2.1,a.1.2.2.2.1,a.2.2.1,false,r4,a.2.2.2.1,a.2.2.2.2.1,a.2.2.2.2.2.1,r3.2,a.2.2.2.2.2.2.2.2)) (0,a.2.2.2.2.2.2.2.1)).bind fun e8=>
 Sum.elim (fun e9=>K ((false,([],[])),r3.2))
 (fun e10=>K ((a.2.2.1,(e10,a.2.2.2.2.2.2.2.2)),r3.2)) e8))
 ((Rec47.m (a.1.2.2.1,a.2.2.2.1,a.2.2.2.2.1,a.2.2.2.2.2.1,a.2.2.2.2.2.2.1)).bind fun r11=>
 (Rec47.m (a.1.2.2.2.1,a.2.2.2.1,a.2.2.2.2.1,a.2.2.2.2.2.1,r11.2)).bind fun r12=>
 (f101_m (a.1.2.2.2.2.1,r11.1,r12.1)).bind fun r13=>
 cond r13.1.1
 (cond r13.2.1
 (K ((false,([],[])),r12.2))
 ((loopAll (f52_l8.m (a.1.2.2.1,a.1.2.2.2.1,a.2.2.1,false,r13,a.2.2.2.1,a.2.2.2.2.1,a.2.2.2.2.2.1,r12.2,a.2.2.2.2.2.2.2.2)) (0,a.2.2.2.2.2.2.2.1)).bind fun e14=>
 Sum.elim (fun e15=>K ((false,([],[])),r12.2))
 (fun e16=>K ((a.2.2.1,(e16,a.2.2.2.2.2.2.2.2)),r12.2)) e14))
 ((loopAll (f52_l8.m (a.1.2.2.1,a.1.2.2.2.1,a.2.2.1,false,r13,a.2.2.2.1,a.2.2.2.2.1,a.2.2.2.2.2.1,r12.2,a.2.2.2.2.2.2.2.2)) (0,a.2.2.2.2.2.2.2.1)).bind fun e17=>
 Sum.elim (fun e18=>K ((false,([],[])),r12.2))
 (fun e19=>K ((a.2.2.1,(e19,a.2.2.2.2.2.2.2.2)),r12.2)) e17))
def f52_m (a:TInstr×Int×Bool×TGraph×TMods×(List (Int×TInstr))×(List (Int×TCongr))×(List TCongr)×(List TCongr)):Option (TMods×(List (Int×TCongr))):=f52_c a some
def f52_sp:Spec:=f52_s.sp f52_m
noncomputable def f52_e:Env:=⟨fun k=>[].contains k,callsL [(100,f100_sp),(47,f47_sp),(101,f101_sp),(102,f102_sp)],fun X k s K=>if k=8 then f52_l8.q X s K else none⟩
noncomputable def f52_l8_c:Code:=subAt [1,1,1,1,1,0,1,0,0] (bodyOf Tryz.f52)
theorem f52_l8_ok (hc:SimCall C f52_e.call):LoopSim f52_e.loop (vc par C true [5,7,8,10,11,1000025,1000029] 81) (.loop f52_l8_c):=
 lO hc f52_l8 (by intros;simp only [f52_l8,LD.m,nn])
theorem f52_ok:OK (166020696663385964545) 52 (f52_s.sp f52_m):=
 fO (d:=166020696663385964544) (env:=f52_e) (callsL_sim (cc f100_ok (cc f47_ok (cc f101_ok (cc f102_ok cn))))) (fn:=Tryz.f52) (mc:=@f52_c) (by intros;simp only [f52_m,f52_c,nn]) (locs:=[5,7,8,10,11,1000025,1000029]) (sh:=(.kill [4,5] (.agg [.any,(.lit cCongr),(.lit cCongr)]))) (fz:=true) (hl:=fun hc=>(lp_of (by kernel_rfl) (lp_cons (f52_l8_ok hc) lp_nil)))
end
end Go.U
end
