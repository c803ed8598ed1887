/- The functions of the program as Lean functions, and that the evaluator says so. -/
import Derived.Test.YtcbcifeaalkdfaaGreatDoorC3
set_option linter.unusedVariables false
set_option linter.unusedSimpArgs false
set_option linter.unusedSectionVars false
section
set_option maxRecDepth 100000
namespace Go.U
open Go Go.Proofs
noncomputable section
def f142_s:FS (TItv×TItv) (TItv) where
 sk:=⟨(.cons (.agg (.cons (.int .i64) (.cons (.int .i64) .nil))) (.cons (.agg (.cons (.int .i64) (.cons (.int .i64) .nil))) .nil)),[],0⟩
 a:=fun u=>((u.1.1.1,u.1.1.2.1),(u.1.2.1.1,u.1.2.1.2.1))
 n:=fun a=>(((a.1.1,(a.1.2,())),((a.2.1,(a.2.2,())),())),())
 o:=fun Z a r K=>K (.agg [.int .i64 r.1,.int .i64 r.2]) ⟨[],0⟩
def f142_c {X:Type} (a:TItv×TItv) (K:TItv→Option X):Option X:=
 (f164_m a.1).bind fun r1=>
 (f164_m a.2).bind fun r2=>
 cond (decide (r1.2<r1.1))
 (K (1,0))
 (cond (decide (r2.2<r2.1))
 (K (1,0))
 ((f146_m ((if r2.1>r1.1 then r2.1 else r1.1),(if r2.2<r1.2 then r2.2 else r1.2))).bind fun r3=>
 K r3))
def f142_m (a:TItv×TItv):Option (TItv):=f142_c a some
def f142_sp:Spec:=f142_s.sp f142_m
noncomputable def f142_e:Env:=⟨fun k=>[].contains k,callsL [(164,f164_sp),(143,f143_sp),(144,f144_sp),(146,f146_sp)],fun X k s K=>none⟩
theorem f142_ok:OK (4) 142 (f142_s.sp f142_m):=
 fnOK (d:=3) (env:=f142_e) (callsL_sim (cc f164_ok (cc f143_ok (cc f144_ok (cc f146_ok cn))))) (fn:=Tryz.f142) (locs:=[2,3,4]) (sh:= .any) (fz:=false) (by kernel_rfl) (fun hc=>(lp_of (by kernel_rfl) lp_nil)) (mc:=fun X a K=>f142_c a K) (fun _ _ _=>by kernel_rfl) (by intros;simp only [f142_m,f142_c,n1,n2,n3,n4,n5,n6,n7,n8]) (fun _=>rfl)
def f145_s:FS (TItv×Int) (Bool) where
 sk:=⟨(.cons (.agg (.cons (.int .i64) (.cons (.int .i64) .nil))) (.cons (.int .i64) .nil)),[],0⟩
 a:=fun u=>((u.1.1.1,u.1.1.2.1),u.1.2.1)
 n:=fun a=>(((a.1.1,(a.1.2,())),(a.2,())),())
 o:=fun Z a r K=>K (.bool r) ⟨[],0⟩
def f145_c {X:Type} (a:TItv×Int) (K:Bool→Option X):Option X:=
 (f164_m a.1).bind fun r1=>
 cond (!(decide (r1.2<r1.1)))
 (cond (decide (r1.1=(-4611686018427387904:Int)))
 (cond (decide (r1.2=(4611686018427387904:Int)))
 (K true)
 (K (decide (a.2≤r1.2))))
 (cond (decide (r1.1≤a.2))
 (cond (decide (r1.2=(4611686018427387904:Int)))
 (K true)
 (K (decide (a.2≤r1.2))))
 (K false)))
 (K false)
def f145_m (a:TItv×Int):Option (Bool):=f145_c a some
def f145_sp:Spec:=f145_s.sp f145_m
noncomputable def f145_e:Env:=⟨fun k=>[].contains k,callsL [(164,f164_sp),(143,f143_sp)],fun X k s K=>none⟩
theorem f145_ok:OK (4) 145 (f145_s.sp f145_m):=
 fnOK (d:=3) (env:=f145_e) (callsL_sim (cc f164_ok (cc f143_ok cn))) (fn:=Tryz.f145) (locs:=[2]) (sh:= .any) (fz:=false) (by kernel_rfl) (fun hc=>(lp_of (by kernel_rfl) lp_nil)) (mc:=fun X a K=>f145_c a K) (fun _ _ _=>by kernel_rfl) (by intros;simp only [f145_m,f145_c,n1,n2,n3,n4,n5,n6,n7,n8]) (fun _=>rfl)
def f96_s:FS (TCongr×TItv) (TCongr×TItv) where
 sk:=⟨(.cons (.agg (.cons .bool (.cons (.int .i64) (.cons (.int .i64) .nil)))) (.cons (.agg (.cons (.int .i64) (.cons (.int .i64) .nil))) .nil)),[],0⟩
 a:=fun u=>((u.1.1.1,(u.1.1.2.1,u.1.1.2.2.1)),(u.1.2.1.1,u.1.2.1.2.1))
 n:=fun a=>(((a.1.1,(a.1.2.1,(a.1.2.2,()))),((a.2.1,(a.2.2,())),())),())
 o:=fun Z a r K=>K (.tup [.agg [.bool r.1.1,.int .i64 r.1.2.1,.int .i64 r.1.2.2],.agg [.int .i64 r.2.1,.int .i64 r.2.2]]) ⟨[],0⟩
def f96_c {X:Type} (a:TCongr×TItv) (K:(TCongr×TItv)→Option X):Option X:=
 (f97_m 3).bind fun r1=>
 (f142_m (a.2,r1)).bind fun r2=>
 cond a.1.1
 (K ((true,(0,0)),(1,0)))
 (cond (decide (r2.2<r2.1))
 (K ((true,(0,0)),(1,0)))
 (cond (decide (a.1.2.1=(0:Int)))
 ((f145_m (r2,a.1.2.2)).bind fun r3=>
 cond (!r3)
 (K ((true,(0,0)),(1,0)))
 ((f146_m (a.1.2.2,a.1.2.2)).bind fun r4=>
 K (a.1,r4)))
 ((f117_m ((wi64 (a.1.2.2-r2.1)),(wu64 a.1.2.1))).bind fun r5=>
 (f117_m ((wi64 (r2.2-a.1.2.2)),(wu64 a.1.2.1))).bind fun r6=>
 cond (decide ((wi64 (r2.2-(wi64 r6)))<(wi64 (r2.1+(wi64 r5)))))
 (K ((true,(0,0)),(1,0)))
 (cond (decide ((wi64 (r2.1+(wi64 r5)))=(wi64 (r2.2-(wi64 r6)))))
 ((f127_m (wi64 (r2.1+(wi64 r5)))).bind fun r7=>
 (f146_m ((wi64 (r2.1+(wi64 r5))),(wi64 (r2.1+(wi64 r5))))).bind fun r8=>
 K ((r7.1,(0,r7.2)),r8))
 ((f146_m ((wi64 (r2.1+(wi64 r5))),(wi64 (r2.2-(wi64 r6))))).bind fun r9=>
 K (a.1,r9))))))
def f96_m (a:TCongr×TItv):Option (TCongr×TItv):=f96_c a some
def f96_sp:Spec:=f96_s.sp f96_m
noncomputable def f96_e:Env:=⟨fun k=>[].contains k,callsL [(97,f97_sp),(142,f142_sp),(124,f124_sp),(144,f144_sp),(143,f143_sp),(145,f145_sp),(146,f146_sp),(117,f117_sp),(127,f127_sp)],fun X k s K=>none⟩
theorem f96_ok:OK (5) 96 (f96_s.sp f96_m):=
 fnOK (d:=4) (env:=f96_e) (callsL_sim (cc f97_ok (cc f142_ok (cc f124_ok (cc f144_ok (cc f143_ok (cc f145_ok (cc f146_ok (cc f117_ok (cc f127_ok cn)))))))))) (fn:=Tryz.f96) (locs:=[2,3,4,5]) (sh:= .any) (fz:=false) (by kernel_rfl) (fun hc=>(lp_of (by kernel_rfl) lp_nil)) (mc:=fun X a K=>f96_c a K) (fun _ _ _=>by kernel_rfl) (by intros;simp only [f96_m,f96_c,n1,n2,n3,n4,n5,n6,n7,n8]) (fun _=>rfl)
def f50_s:FS (TCongr×Int) (TCongr) where
 sk:=⟨(.cons (.agg (.cons .bool (.cons (.int .i64) (.cons (.int .i64) .nil)))) (.cons (.int .i64) .nil)),[],0⟩
 a:=fun u=>((u.1.1.1,(u.1.1.2.1,u.1.1.2.2.1)),u.1.2.1)
 n:=fun a=>(((a.1.1,(a.1.2.1,(a.1.2.2,()))),(a.2,())),())
 o:=fun Z a r K=>K (.agg [.bool r.1,.int .i64 r.2.1,.int .i64 r.2.2]) ⟨[],0⟩
def f50_c {X:Type} (a:TCongr×Int) (K:TCongr→Option X):Option X:=
 (f97_m a.2).bind fun r1=>
 (f96_m (a.1,r1)).bind fun r2=>
 K r2.1
def f50_m (a:TCongr×Int):Option (TCongr):=f50_c a some
def f50_sp:Spec:=f50_s.sp f50_m
noncomputable def f50_e:Env:=⟨fun k=>[].contains k,callsL [(97,f97_sp),(96,f96_sp)],fun X k s K=>none⟩
theorem f50_ok:OK (6) 50 (f50_s.sp f50_m):=
 fnOK (d:=5) (env:=f50_e) (callsL_sim (cc f97_ok (cc f96_ok cn))) (fn:=Tryz.f50) (locs:=[2,4]) (sh:= .any) (fz:=false) (by kernel_rfl) (fun hc=>(lp_of (by kernel_rfl) lp_nil)) (mc:=fun X a K=>f50_c a K) (fun _ _ _=>by kernel_rfl) (by intros;simp only [f50_m,f50_c,n1,n2,n3,n4,n5,n6,n7,n8]) (fun _=>rfl)
def f100_s:FS (Int) (Int) where
 sk:=⟨(.cons (.int .i64) .nil),[],0⟩
 a:=fun u=>u.1.1
 n:=fun a=>((a,()),())
 o:=fun Z a r K=>K (.int .i64 r) ⟨[],0⟩
def f100_c {X:Type} (a:Int) (K:Int→Option X):Option X:=
 cond (decide ((wi64 (a-(14:Int)))=(0:Int)))
 (K 15)
 (cond (decide ((wi64 (a-(14:Int)))=(1:Int)))
 (K 14)
 (cond (decide ((wi64 (a-(14:Int)))=(2:Int)))
 (K 19)
 (cond (decide ((wi64 (a-(14:Int)))=(3:Int)))
 (K 18)
 (cond (decide ((wi64 (a-(14:Int)))=(4:Int)))
 (K 17)
 (cond (decide ((wi64 (a-(14:Int)))=(5:Int)))
 (K 16)
 (none))))))
def f100_m (a:Int):Option (Int):=f100_c a some
def f100_sp:Spec:=f100_s.sp f100_m
noncomputable def f100_e:Env:=⟨fun k=>[].contains k,callsL [],fun X k s K=>none⟩
theorem f100_ok:OK (1) 100 (f100_s.sp f100_m):=
 fnOK (d:=0) (env:=f100_e) (callsL_sim cn) (fn:=Tryz.f100) (locs:=[]) (sh:= .any) (fz:=false) (by kernel_rfl) (fun hc=>(lp_of (by kernel_rfl) lp_nil)) (mc:=fun X a K=>f100_c a K) (fun _ _ _=>by kernel_rfl) (by intros;simp only [f100_m,f100_c,n1,n2,n3,n4,n5,n6,n7,n8]) (fun _=>rfl)
def f147_s:FS (Int×Int×Int) (Bool) where
 sk:=⟨(.cons (.int .i64) (.cons (.int .i64) (.cons (.int .i64) .nil))),[],0⟩
 a:=fun u=>(u.1.1,u.1.2.1,u.1.2.2.1)
 n:=fun a=>((a.1,(a.2.1,(a.2.2,()))),())
 o:=fun Z a r K=>K (.bool r) ⟨[],0⟩
def f147_c {X:Type} (a:Int×Int×Int) (K:Bool→Option X):Option X:=
 cond (decide (a.1=(14:Int)))
 (K (decide (a.2.1=a.2.2)))
 (cond (decide (a.1=(15:Int)))
 (K (!(decide (a.2.1=a.2.2))))
 (cond (decide (a.1=(16:Int)))
 (K (decide (a.2.1<a.2.2)))
 (cond (decide (a.1=(17:Int)))
 (K (decide (a.2.1≤a.2.2)))
 (cond (decide (a.1=(18:Int)))
 (K (decide (a.2.2<a.2.1)))
 (K (decide (a.2.2≤a.2.1)))))))
def f147_m (a:Int×Int×Int):Option (Bool):=f147_c a some
def f147_sp:Spec:=f147_s.sp f147_m
noncomputable def f147_e:Env:=⟨fun k=>[].contains k,callsL [],fun X k s K=>none⟩
theorem f147_ok:OK (1) 147 (f147_s.sp f147_m):=
 fnOK (d:=0) (env:=f147_e) (callsL_sim cn) (fn:=Tryz.f147) (locs:=[]) (sh:= .any) (fz:=false) (by kernel_rfl) (fun hc=>(lp_of (by kernel_rfl) lp_nil)) (mc:=fun X a K=>f147_c a K) (fun _ _ _=>by kernel_rfl) (by intros;simp only [f147_m,f147_c,n1,n2,n3,n4,n5,n6,n7,n8]) (fun _=>rfl)
def f64_s:FS (TCongr×Int) (Bool) where
 sk:=⟨(.cons (.agg (.cons .bool (.cons (.int .i64) (.cons (.int .i64) .nil)))) (.cons (.int .i64) .nil)),[],0⟩
 a:=fun u=>((u.1.1.1,(u.1.1.2.1,u.1.1.2.2.1)),u.1.2.1)
 n:=fun a=>(((a.1.1,(a.1.2.1,(a.1.2.2,()))),(a.2,())),())
 o:=fun Z a r K=>K (.bool r) ⟨[],0⟩
def f64_c {X:Type} (a:TCongr×Int) (K:Bool→Option X):Option X:=
 cond a.1.1
 (K false)
 (cond (decide (a.2<(-2147483648:Int)))
 (K false)
 (cond (decide ((2147483647:Int)<a.2))
 (K false)
 (cond (decide (a.1.2.1=(0:Int)))
 (K (decide (a.2=a.1.2.2)))
 ((f117_m (a.2,(wu64 a.1.2.1))).bind fun r1=>
 K (decide (r1=(wu64 a.1.2.2)))))))
def f64_m (a:TCongr×Int):Option (Bool):=f64_c a some
def f64_sp:Spec:=f64_s.sp f64_m
noncomputable def f64_e:Env:=⟨fun k=>[].contains k,callsL [(117,f117_sp)],fun X k s K=>none⟩
theorem f64_ok:OK (3) 64 (f64_s.sp f64_m):=
 fnOK (d:=2) (env:=f64_e) (callsL_sim (cc f117_ok cn)) (fn:=Tryz.f64) (locs:=[2]) (sh:= .any) (fz:=false) (by kernel_rfl) (fun hc=>(lp_of (by kernel_rfl) lp_nil)) (mc:=fun X a K=>f64_c a K) (fun _ _ _=>by kernel_rfl) (by intros;simp only [f64_m,f64_c,n1,n2,n3,n4,n5,n6,n7,n8]) (fun _=>rfl)
def f149_s:FS (Int×Int) (Int) where
 sk:=⟨(.cons (.int .u64) (.cons (.int .u64) .nil)),[],0⟩
 a:=fun u=>(u.1.1,u.1.2.1)
 n:=fun a=>((a.1,(a.2,())),())
 o:=fun Z a r K=>K (.int .u64 r) ⟨[],0⟩
def f149_l2:LD (Int) (Int×Int×Int×Int) (Int) where
 sk:=⟨[(1,.v (.int .u64)),(5,.v (.int .i64)),(6,.v (.int .i64)),(7,.v (.int .i64)),(8,.v (.int .i64))],[],[],0,0⟩
 p:=fun u=>u.1.1
 t:=fun u=>(u.1.2.1,u.1.2.2.1,u.1.2.2.2.1,u.1.2.2.2.2.1)
 n:=fun p t=>((p,(t.1,(t.2.1,(t.2.2.1,(t.2.2.2,()))))),((),()))
 st:=fun Y p t ki ke=>cond (!(decide (t.2.2.2=(0:Int))))
  (cond (decide (t.2.2.2=(0:Int)))
  (none)
  (ki (t.2.1,(wi64 (t.1-(wi64 ((wi64 (Int.tdiv t.2.2.1 t.2.2.2)) * t.2.1)))),t.2.2.2,(wi64 (t.2.2.1-(wi64 ((wi64 (Int.tdiv t.2.2.1 t.2.2.2)) * t.2.2.2)))))))
  (ke (t.1))
 o:=fun Z p e K=>K (.exit 0) ⟨[(1,.v (.int .u64 p)),(5,.v (.int .i64 e))],[],⟨[],0⟩,0⟩
 pol:=⟨[1,5,6,7,8],[],[],[]⟩
 pe:=[(.exit 0,⟨[1,5],[],[],[]⟩)]
def f149_c {X:Type} (a:Int×Int) (K:Int→Option X):Option X:=
 (loopAll (f149_l2.m a.2) (1,0,(wi64 a.1),(wi64 a.2))).bind fun e1=>
 (f117_m (e1,a.2)).bind fun r2=>
 K r2
def f149_m (a:Int×Int):Option (Int):=f149_c a some
def f149_sp:Spec:=f149_s.sp f149_m
noncomputable def f149_e:Env:=⟨fun k=>[].contains k,callsL [(117,f117_sp)],fun X k s K=>if k=2 then f149_l2.q X s K else none⟩
noncomputable def f149_l2_c:Code:=subAt [1,1,0,0,0] (bodyOf Tryz.f149)
theorem f149_l2_ok {C:V.Callee} (hc:SimCall C f149_e.call):LoopSim f149_e.loop (vc par C true [] 34) (.loop f149_l2_c):=
 loop_form glob_ok hc (lp_of (by kernel_rfl) lp_nil) f149_l2 (by kernel_rfl) (by intros;simp only [f149_l2,LD.m,n1,n2,n3,n4,n5,n6,n7,n8]) (fun _ _=>by kernel_rfl) (fun _=>rfl) (fun _ _ _ _=>rfl) (fun _ _ _=>by kernel_rfl)
theorem f149_ok:OK (3) 149 (f149_s.sp f149_m):=
 fnOK (d:=2) (env:=f149_e) (callsL_sim (cc f117_ok cn)) (fn:=Tryz.f149) (locs:=[]) (sh:= .any) (fz:=false) (by kernel_rfl) (fun hc=>(lp_of (by kernel_rfl) (lp_cons (f149_l2_ok hc) lp_nil))) (mc:=fun X a K=>f149_c a K) (fun _ _ _=>by kernel_rfl) (by intros;simp only [f149_m,f149_c,n1,n2,n3,n4,n5,n6,n7,n8]) (fun _=>rfl)
def f102_s:FS (TCongr×TCongr) (TCongr) where
 sk:=⟨(.cons (.agg (.cons .bool (.cons (.int .i64) (.cons (.int .i64) .nil)))) (.cons (.agg (.cons .bool (.cons (.int .i64) (.cons (.int .i64) .nil)))) .nil)),[],0⟩
 a:=fun u=>((u.1.1.1,(u.1.1.2.1,u.1.1.2.2.1)),(u.1.2.1.1,(u.1.2.1.2.1,u.1.2.1.2.2.1)))
 n:=fun a=>(((a.1.1,(a.1.2.1,(a.1.2.2,()))),((a.2.1,(a.2.2.1,(a.2.2.2,()))),())),())
 o:=fun Z a r K=>K (.agg [.bool r.1,.int .i64 r.2.1,.int .i64 r.2.2]) ⟨[],0⟩
def f102_c {X:Type} (a:TCongr×TCongr) (K:TCongr→Option X):Option X:=
 cond a.1.1
 (K (true,(0,0)))
 (cond a.2.1
 (K (true,(0,0)))
 (cond (decide (a.1.2.1=(0:Int)))
 (cond (!(decide (a.1.2.1=(0:Int))))
 ((f64_m (a.1,a.2.2.2)).bind fun r1=>
 cond r1
 (K a.2)
 (K (true,(0,0))))
 ((f64_m (a.2,a.1.2.2)).bind fun r2=>
 cond r2
 (K a.1)
 (K (true,(0,0)))))
 (cond (decide (a.2.2.1=(0:Int)))
 (cond (!(decide (a.1.2.1=(0:Int))))
 ((f64_m (a.1,a.2.2.2)).bind fun r3=>
 cond r3
 (K a.2)
 (K (true,(0,0))))
 ((f64_m (a.2,a.1.2.2)).bind fun r4=>
 cond r4
 (K a.1)
 (K (true,(0,0)))))
 ((f128_m ((wu64 a.1.2.1),(wu64 a.2.2.1))).bind fun r5=>
 (f129_m (wi64 (a.1.2.2-a.2.2.2))).bind fun r6=>
 cond (decide (r5=(0:Int)))
 (none)
 (cond (!(decide ((Int.tmod r6 r5)=(0:Int))))
 (K (true,(0,0)))
 (cond (decide (r5=(0:Int)))
 (none)
 (cond (decide ((1:Int)<(wu64 (Int.tdiv (wu64 a.2.2.1) r5))))
 (cond (decide ((wi64 r5)=(0:Int)))
 (none)
 (cond (decide (r5=(0:Int)))
 (none)
 ((f117_m ((wi64 (Int.tdiv (wi64 (a.2.2.2-a.1.2.2)) (wi64 r5))),(wu64 (Int.tdiv (wu64 a.2.2.1) r5)))).bind fun r7=>
 cond (decide (r5=(0:Int)))
 (none)
 (cond (decide (r5=(0:Int)))
 (none)
 (cond (decide ((wu64 (Int.tdiv (wu64 a.2.2.1) r5))=(0:Int)))
 (none)
 (cond (decide (r5=(0:Int)))
 (none)
 ((f149_m ((Int.tmod (wu64 (Int.tdiv (wu64 a.1.2.1) r5)) (wu64 (Int.tdiv (wu64 a.2.2.1) r5))),(wu64 (Int.tdiv (wu64 a.2.2.1) r5)))).bind fun r8=>
 cond (decide (r5=(0:Int)))
 (none)
 ((f131_m (((wu64 ((wu64 ((wu64 ((Int.fdiv r7 (2^min 32 64)) * (Int.fdiv r8 (2^min 32 64))))+(Int.fdiv (wu64 ((wu64 ((Int.fdiv r7 (2^min 32 64)) * (bits_and .u64 r8 4294967295)))+(Int.fdiv (wu64 ((bits_and .u64 r7 4294967295) * (bits_and .u64 r8 4294967295))) (2^min 32 64)))) (2^min 32 64))))+(Int.fdiv (wu64 ((bits_and .u64 (wu64 ((wu64 ((Int.fdiv r7 (2^min 32 64)) * (bits_and .u64 r8 4294967295)))+(Int.fdiv (wu64 ((bits_and .u64 r7 4294967295) * (bits_and .u64 r8 4294967295))) (2^min 32 64)))) 4294967295)+(wu64 ((bits_and .u64 r7 4294967295) * (Int.fdiv r8 (2^min 32 64)))))) (2^min 32 64)))),(wu64 (r7 * r8))),(wu64 (Int.tdiv (wu64 a.2.2.1) r5)))).bind fun r9=>
 cond (decide (r5=(0:Int)))
 (none)
 ((f132_m ((wu64 ((wu64 a.1.2.1) * (wu64 (Int.tdiv (wu64 a.2.2.1) r5)))),(wu64 ((wu64 ((wu64 a.1.2.1) * r9))+(wu64 a.1.2.2))))).bind fun r10=>
 K r10)))))))))
 (cond (decide (r5=(0:Int)))
 (none)
 ((f132_m ((wu64 ((wu64 a.1.2.1) * (wu64 (Int.tdiv (wu64 a.2.2.1) r5)))),(wu64 ((wu64 ((wu64 a.1.2.1) * (0:Int)))+(wu64 a.1.2.2))))).bind fun r11=>
 K r11)))))))))
def f102_m (a:TCongr×TCongr):Option (TCongr):=f102_c a some
def f102_sp:Spec:=f102_s.sp f102_m
noncomputable def f102_e:Env:=⟨fun k=>[].contains k,callsL [(124,f124_sp),(64,f64_sp),(128,f128_sp),(129,f129_sp),(117,f117_sp),(149,f149_sp),(148,f148_sp),(131,f131_sp),(132,f132_sp)],fun X k s K=>none⟩
theorem f102_ok:OK (6) 102 (f102_s.sp f102_m):=
 fnOK (d:=5) (env:=f102_e) (callsL_sim (cc f124_ok (cc f64_ok (cc f128_ok (cc f129_ok (cc f117_ok (cc f149_ok (cc f148_ok (cc f131_ok (cc f132_ok cn)))))))))) (fn:=Tryz.f102) (locs:=[2,3,4]) (sh:= .any) (fz:=false) (by kernel_rfl) (fun hc=>(lp_of (by kernel_rfl) lp_nil)) (mc:=fun X a K=>f102_c a K) (fun _ _ _=>by kernel_rfl) (by intros;simp only [f102_m,f102_c,n1,n2,n3,n4,n5,n6,n7,n8]) (fun _=>rfl)
def f101_s:FS (Int×TCongr×TCongr) (TCongr×TCongr) where
 sk:=⟨(.cons (.int .i64) (.cons (.agg (.cons .bool (.cons (.int .i64) (.cons (.int .i64) .nil)))) (.cons (.agg (.cons .bool (.cons (.int .i64) (.cons (.int .i64) .nil)))) .nil))),[],0⟩
 a:=fun u=>(u.1.1,(u.1.2.1.1,(u.1.2.1.2.1,u.1.2.1.2.2.1)),(u.1.2.2.1.1,(u.1.2.2.1.2.1,u.1.2.2.1.2.2.1)))
 n:=fun a=>((a.1,((a.2.1.1,(a.2.1.2.1,(a.2.1.2.2,()))),((a.2.2.1,(a.2.2.2.1,(a.2.2.2.2,()))),()))),())
 o:=fun Z a r K=>K (.tup [.agg [.bool r.1.1,.int .i64 r.1.2.1,.int .i64 r.1.2.2],.agg [.bool r.2.1,.int .i64 r.2.2.1,.int .i64 r.2.2.2]]) ⟨[],0⟩
def f101_c {X:Type} (a:Int×TCongr×TCongr) (K:(TCongr×TCongr)→Option X):Option X:=
 cond (decide (a.1<(14:Int)))
 (K (a.2.1,a.2.2))
 (cond (decide ((19:Int)<a.1))
 (K (a.2.1,a.2.2))
 (cond a.2.1.1
 (K ((true,(0,0)),(true,(0,0))))
 (cond a.2.2.1
 (K ((true,(0,0)),(true,(0,0))))
 (cond (decide (a.2.1.2.1=(0:Int)))
 (cond (decide (a.2.2.2.1=(0:Int)))
 ((f147_m (a.1,a.2.1.2.2,a.2.2.2.2)).bind fun r1=>
 cond (!r1)
 (K ((true,(0,0)),(true,(0,0))))
 (cond (decide (a.1=(14:Int)))
 ((f102_m (a.2.1,a.2.2)).bind fun r2=>
 K (r2,r2))
 (K (a.2.1,a.2.2))))
 (cond (decide (a.1=(14:Int)))
 ((f102_m (a.2.1,a.2.2)).bind fun r3=>
 K (r3,r3))
 (K (a.2.1,a.2.2))))
 (cond (decide (a.1=(14:Int)))
 ((f102_m (a.2.1,a.2.2)).bind fun r4=>
 K (r4,r4))
 (K (a.2.1,a.2.2)))))))
def f101_m (a:Int×TCongr×TCongr):Option (TCongr×TCongr):=f101_c a some
def f101_sp:Spec:=f101_s.sp f101_m
noncomputable def f101_e:Env:=⟨fun k=>[].contains k,callsL [(124,f124_sp),(147,f147_sp),(102,f102_sp)],fun X k s K=>none⟩
theorem f101_ok:OK (7) 101 (f101_s.sp f101_m):=
 fnOK (d:=6) (env:=f101_e) (callsL_sim (cc f124_ok (cc f147_ok (cc f102_ok cn)))) (fn:=Tryz.f101) (locs:=[4,5,6,7,8]) (sh:= .any) (fz:=false) (by kernel_rfl) (fun hc=>(lp_of (by kernel_rfl) lp_nil)) (mc:=fun X a K=>f101_c a K) (fun _ _ _=>by kernel_rfl) (by intros;simp only [f101_m,f101_c,n1,n2,n3,n4,n5,n6,n7,n8]) (fun _=>rfl)
def f52_s:FS (TInstr×Int×Bool×TGraph×TMods×(List (Int×TInstr))×(List (Int×TCongr))×(List TCongr)×(List TCongr)) (TMods×(List (Int×TCongr))) where
 sk:=⟨(.cons (.ptr 0 0) (.cons (.agg (.cons (.int .i64) (.cons (.int .i64) (.cons (.int .i64) (.cons (.int .i64) (.cons (.int .i64) (.cons (.int .i64) (.cons (.int .i64) (.cons (.int .i64) .nil))))))))) (.cons (.int .i64) (.cons (.agg (.cons .bool (.cons (.all 4) (.cons (.all 5) .nil)))) .nil)))),[.opn (.cons (.lit cInstr) (.cons (.int .i64) (.cons (.int .i64) (.cons (.int .i64) (.cons (.lit cArray) (.cons (.lit cScalar) (.cons (.lit cArray) (.cons (.lit cItv) (.cons .bool (.cons (.lit cCongr) (.cons (.lit cCongr) (.cons (.mp 1) (.cons (.mp 2) (.cons (.mp 3) .nil)))))))))))))),.mapT (.int .i64) true cInstr,.mapT (.int .i64) true cCongr,.mapL (.int .i64) [((2:Int),(.fn 85 .nil)),((3:Int),(.fn 87 .nil)),((4:Int),(.fn 89 .nil)),((5:Int),(.fn 90 .nil)),((6:Int),(.fn 91 .nil)),((7:Int),(.fn 92 .nil)),((8:Int),(.fn 93 .nil)),((9:Int),(.fn 83 .nil)),((10:Int),(.fn 83 .nil))],.cells cCongr,.cells cCongr],0⟩
 a:=fun u=>((u.1.2.1.1,(u.1.2.1.2.1,(u.1.2.1.2.2.1,(u.1.2.1.2.2.2.1,(u.1.2.1.2.2.2.2.1,(u.1.2.1.2.2.2.2.2.1,(u.1.2.1.2.2.2.2.2.2.1,u.1.2.1.2.2.2.2.2.2.2.1))))))),u.1.2.2.1,u.1.2.2.2.1.1,(u.2.1.1,(u.2.1.2.1,(u.2.1.2.2.1,(u.2.1.2.2.2.1,(u.2.1.2.2.2.2.1,(u.2.1.2.2.2.2.2.1,(u.2.1.2.2.2.2.2.2.1,u.2.1.2.2.2.2.2.2.2.1))))))),(u.2.1.2.2.2.2.2.2.2.2.1,(u.2.1.2.2.2.2.2.2.2.2.2.1,u.2.1.2.2.2.2.2.2.2.2.2.2.1)),u.2.2.1,u.2.2.2.1,u.2.2.2.2.2.1,u.2.2.2.2.2.2.1)
 n:=fun a=>(((),((a.1.1,(a.1.2.1,(a.1.2.2.1,(a.1.2.2.2.1,(a.1.2.2.2.2.1,(a.1.2.2.2.2.2.1,(a.1.2.2.2.2.2.2.1,(a.1.2.2.2.2.2.2.2,())))))))),(a.2.1,((a.2.2.1,((),((),()))),())))),((a.2.2.2.1.1,(a.2.2.2.1.2.1,(a.2.2.2.1.2.2.1,(a.2.2.2.1.2.2.2.1,(a.2.2.2.1.2.2.2.2.1,(a.2.2.2.1.2.2.2.2.2.1,(a.2.2.2.1.2.2.2.2.2.2.1,(a.2.2.2.1.2.2.2.2.2.2.2,(a.2.2.2.2.1.1,(a.2.2.2.2.1.2.1,(a.2.2.2.2.1.2.2,((),((),((),())))))))))))))),(a.2.2.2.2.2.1,(a.2.2.2.2.2.2.1,(((),((),((),((),((),((),((),((),((),()))))))))),(a.2.2.2.2.2.2.2.1,(a.2.2.2.2.2.2.2.2,())))))))
 o:=fun Z a r K=>K (.agg [.bool r.1.1,.lit cCongr r.1.2.1,.lit cCongr r.1.2.2]) ⟨[.opn [.lit cInstr a.2.2.2.1.1,.int .i64 a.2.2.2.1.2.1,.int .i64 a.2.2.2.1.2.2.1,.int .i64 a.2.2.2.1.2.2.2.1,.lit cArray a.2.2.2.1.2.2.2.2.1,.lit cScalar a.2.2.2.1.2.2.2.2.2.1,.lit cArray a.2.2.2.1.2.2.2.2.2.2.1,.lit cItv a.2.2.2.1.2.2.2.2.2.2.2,.bool a.2.2.2.2.1.1,.lit cCongr a.2.2.2.2.1.2.1,.lit cCongr a.2.2.2.2.1.2.2,.mp 1,.mp 2,.mp 3],.mapT (.int .i64) true cInstr a.2.2.2.2.2.1,.mapT (.int .i64) true cCongr r.2,.mapL (.int .i64) [((2:Int),.fn 85 []),((3:Int),.fn 87 []),((4:Int),.fn 89 []),((5:Int),.fn 90 []),((6:Int),.fn 91 []),((7:Int),.fn 92 []),((8:Int),.fn 93 []),((9:Int),.fn 83 []),((10:Int),.fn 83 [])],.dead,.dead],0⟩
def f52_l8:LD (Int×Int×Bool×Bool×(TCongr×TCongr)×TGraph×TMods×(List (Int×TInstr))×(List (Int×TCongr))×(List TCongr)) (Int×(List TCongr)) (((List TCongr)) ⊕ ((List TCongr))) where
 sk:=⟨[(0,.v (.ptr 0 0)),(7,.loc 0 0),(8,.loc 1 0),(10,.loc 2 0),(11,.loc 3 0),(44,.v (.agg (.cons (.int .i64) (.cons (.int .i64) .nil)))),(45,.v (.int .i64))],[(.cons .bool (.cons (.all 4) (.cons (.all 5) .nil))),(.cons .bool (.cons .nils (.cons .nils .nil))),(.cons .bool (.cons (.int .i64) (.cons (.int .i64) .nil))),(.cons .bool (.cons (.int .i64) (.cons (.int .i64) .nil)))],[.opn (.cons (.lit cInstr) (.cons (.int .i64) (.cons (.int .i64) (.cons (.int .i64) (.cons (.lit cArray) (.cons (.lit cScalar) (.cons (.lit cArray) (.cons (.lit cItv) (.cons .bool (.cons (.lit cCongr) (.cons (.lit cCongr) (.cons (.mp 1) (.cons (.mp 2) (.cons (.mp 3) .nil)))))))))))))),.mapT (.int .i64) true cInstr,.mapT (.int .i64) true cCongr,.mapL (.int .i64) [((2:Int),(.fn 85 .nil)),((3:Int),(.fn 87 .nil)),((4:Int),(.fn 89 .nil)),((5:Int),(.fn 90 .nil)),((6:Int),(.fn 91 .nil)),((7:Int),(.fn 92 .nil)),((8:Int),(.fn 93 .nil)),((9:Int),(.fn 83 .nil)),((10:Int),(.fn 83 .nil))],.cells cCongr,.cells cCongr],0,6⟩
 p:=fun u=>(u.1.2.1.1,u.1.2.1.2.1,u.2.1.1.1,u.2.1.2.1.1,((u.2.1.2.2.1.1,(u.2.1.2.2.1.2.1,u.2.1.2.2.1.2.2.1)),(u.2.1.2.2.2.1.1,(u.2.1.2.2.2.1.2.1,u.2.1.2.2.2.1.2.2.1))),(u.2.2.1.1,(u.2.2.1.2.1,(u.2.2.1.2.2.1,(u.2.2.1.2.2.2.1,(u.2.2.1.2.2.2.2.1,(u.2.2.1.2.2.2.2.2.1,(u.2.2.1.2.2.2.2.2.2.1,u.2.2.1.2.2.2.2.2.2.2.1))))))),(u.2.2.1.2.2.2.2.2.2.2.2.1,(u.2.2.1.2.2.2.2.2.2.2.2.2.1,u.2.2.1.2.2.2.2.2.2.2.2.2.2.1)),u.2.2.2.1,u.2.2.2.2.1,u.2.2.2.2.2.2.2.1)
 t:=fun u=>(u.1.2.2.1,u.2.2.2.2.2.2.1)
 n:=fun p t=>(((),((p.1,(p.2.1,())),(t.1,()))),(((p.2.2.1,((),((),()))),((p.2.2.2.1,((),((),()))),((p.2.2.2.2.1.1.1,(p.2.2.2.2.1.1.2.1,(p.2.2.2.2.1.1.2.2,()))),((p.2.2.2.2.1.2.1,(p.2.2.2.2.1.2.2.1,(p.2.2.2.2.1.2.2.2,()))),())))),((p.2.2.2.2.2.1.1,(p.2.2.2.2.2.1.2.1,(p.2.2.2.2.2.1.2.2.1,(p.2.2.2.2.2.1.2.2.2.1,(p.2.2.2.2.2.1.2.2.2.2.1,(p.2.2.2.2.2.1.2.2.2.2.2.1,(p.2.2.2.2.2.1.2.2.2.2.2.2.1,(p.2.2.2.2.2.1.2.2.2.2.2.2.2,(p.2.2.2.2.2.2.1.1,(p.2.2.2.2.2.2.1.2.1,(p.2.2.2.2.2.2.1.2.2,((),((),((),())))))))))))))),(p.2.2.2.2.2.2.2.1,(p.2.2.2.2.2.2.2.2.1,(((),((),((),((),((),((),((),((),((),()))))))))),(t.2,(p.2.2.2.2.2.2.2.2.2,()))))))))
 st:=fun Y p t ki ke=>cond (decide (t.1<(2:Int)))
  (cond (decide (t.1=(0:Int)))
  (cond (decide (p.1<(nt (List.length p.2.2.2.2.2.1.2.2.2.2.2.1))))
  (ask (V.inRange p.1 (List.length t.2)) (cond (decide (t.1=(0:Int)))
  ((f102_m ((gx t.2 (Int.toNat p.1) dCongr),p.2.2.2.2.1.1)).bind fun r1=>
  ask (V.inRange p.1 (List.length t.2)) (ask (V.inRange p.1 (List.length (List.set t.2 (Int.toNat p.1) r1))) (cond (gx (List.set t.2 (Int.toNat p.1) r1) (Int.toNat p.1) dCongr).1
  (ke (.inl (List.set t.2 (Int.toNat p.1) r1)))
  (ki ((wi64 (t.1+(1:Int))),(List.set t.2 (Int.toNat p.1) r1))))))
  (cond (decide (t.1=(1:Int)))
  ((f102_m ((gx t.2 (Int.toNat p.1) dCongr),p.2.2.2.2.1.2)).bind fun r2=>
  ask (V.inRange p.1 (List.length t.2)) (ask (V.inRange p.1 (List.length (List.set t.2 (Int.toNat p.1) r2))) (cond (gx (List.set t.2 (Int.toNat p.1) r2) (Int.toNat p.1) dCongr).1
  (ke (.inl (List.set t.2 (Int.toNat p.1) r2)))
  (ki ((wi64 (t.1+(1:Int))),(List.set t.2 (Int.toNat p.1) r2))))))
  (none))))
  (ki ((wi64 (t.1+(1:Int))),t.2)))
  (cond (decide (t.1=(1:Int)))
  (cond (decide (p.2.1<(nt (List.length p.2.2.2.2.2.1.2.2.2.2.2.1))))
  (ask (V.inRange p.2.1 (List.length t.2)) (cond (decide (t.1=(0:Int)))
  ((f102_m ((gx t.2 (Int.toNat p.2.1) dCongr),p.2.2.2.2.1.1)).bind fun r3=>
  ask (V.inRange p.2.1 (List.length t.2)) (ask (V.inRange p.2.1 (List.length (List.set t.2 (Int.toNat p.2.1) r3))) (cond (gx (List.set t.2 (Int.toNat p.2.1) r3) (Int.toNat p.2.1) dCongr).1
  (ke (.inl (List.set t.2 (Int.toNat p.2.1) r3)))
  (ki ((wi64 (t.1+(1:Int))),(List.set t.2 (Int.toNat p.2.1) r3))))))
  (cond (decide (t.1=(1:Int)))
  ((f102_m ((gx t.2 (Int.toNat p.2.1) dCongr),p.2.2.2.2.1.2)).bind fun r4=>
  ask (V.inRange p.2.1 (List.length t.2)) (ask (V.inRange p.2.1 (List.length (List.set t.2 (Int.toNat p.2.1) r4))) (cond (gx (List.set t.2 (Int.toNat p.2.1) r4) (Int.toNat p.2.1) dCongr).1
  (ke (.inl (List.set t.2 (Int.toNat p.2.1) r4)))
  (ki ((wi64 (t.1+(1:Int))),(List.set t.2 (Int.toNat p.2.1) r4))))))
  (none))))
  (ki ((wi64 (t.1+(1:Int))),t.2)))
  (none)))
  (ke (.inr (t.2)))
 o:=fun Z p e K=>Sum.elim (fun e=>K .ret ⟨[(8,.loc 0 0)],[[.bool false,.nils,.nils]],⟨[.opn [.lit cInstr p.2.2.2.2.2.1.1,.int .i64 p.2.2.2.2.2.1.2.1,.int .i64 p.2.2.2.2.2.1.2.2.1,.int .i64 p.2.2.2.2.2.1.2.2.2.1,.lit cArray p.2.2.2.2.2.1.2.2.2.2.1,.lit cScalar p.2.2.2.2.2.1.2.2.2.2.2.1,.lit cArray p.2.2.2.2.2.1.2.2.2.2.2.2.1,.lit cItv p.2.2.2.2.2.1.2.2.2.2.2.2.2,.bool p.2.2.2.2.2.2.1.1,.lit cCongr p.2.2.2.2.2.2.1.2.1,.lit cCongr p.2.2.2.2.2.2.1.2.2,.mp 1,.mp 2,.mp 3],.mapT (.int .i64) true cInstr p.2.2.2.2.2.2.2.1,.mapT (.int .i64) true cCongr p.2.2.2.2.2.2.2.2.1,.mapL (.int .i64) [((2:Int),.fn 85 []),((3:Int),.fn 87 []),((4:Int),.fn 89 []),((5:Int),.fn 90 []),((6:Int),.fn 91 []),((7:Int),.fn 92 []),((8:Int),.fn 93 []),((9:Int),.fn 83 []),((10:Int),.fn 83 [])],.cells cCongr e,.cells cCongr p.2.2.2.2.2.2.2.2.2],0⟩,6⟩) (fun e=>K (.exit 0) ⟨[(7,.loc 0 0),(8,.loc 1 0)],[[.bool p.2.2.1,.all 4,.all 5],[.bool p.2.2.2.1,.nils,.nils]],⟨[.opn [.lit cInstr p.2.2.2.2.2.1.1,.int .i64 p.2.2.2.2.2.1.2.1,.int .i64 p.2.2.2.2.2.1.2.2.1,.int .i64 p.2.2.2.2.2.1.2.2.2.1,.lit cArray p.2.2.2.2.2.1.2.2.2.2.1,.lit cScalar p.2.2.2.2.2.1.2.2.2.2.2.1,.lit cArray p.2.2.2.2.2.1.2.2.2.2.2.2.1,.lit cItv p.2.2.2.2.2.1.2.2.2.2.2.2.2,.bool p.2.2.2.2.2.2.1.1,.lit cCongr p.2.2.2.2.2.2.1.2.1,.lit cCongr p.2.2.2.2.2.2.1.2.2,.mp 1,.mp 2,.mp 3],.mapT (.int .i64) true cInstr p.2.2.2.2.2.2.2.1,.mapT (.int .i64) true cCongr p.2.2.2.2.2.2.2.2.1,.mapL (.int .i64) [((2:Int),.fn 85 []),((3:Int),.fn 87 []),((4:Int),.fn 89 []),((5:Int),.fn 90 []),((6:Int),.fn 91 []),((7:Int),.fn 92 []),((8:Int),.fn 93 []),((9:Int),.fn 83 []),((10:Int),.fn 83 [])],.cells cCongr e,.cells cCongr p.2.2.2.2.2.2.2.2.2],0⟩,6⟩) e
 pol:=⟨[0,7,8,10,11,44,45],[],[],[]⟩
 pe:=[(.ret,⟨[8],[],[],[]⟩),(.exit 0,⟨[7,8],[],[],[]⟩)]
def f52_c {X:Type} (a:TInstr×Int×Bool×TGraph×TMods×(List (Int×TInstr))×(List (Int×TCongr))×(List TCongr)×(List TCongr)) (K:(TMods×(List (Int×TCongr)))→Option X):Option X:=
 cond (decide (a.2.1=(1:Int)))
 ((f100_m a.1.2.2.2.2.1).bind fun r1=>
 (Rec47.m (a.1.2.2.1,a.2.2.2.1,a.2.2.2.2.1,a.2.2.2.2.2.1,a.2.2.2.2.2.2.1)).bind fun r2=>
 (Rec47.m (a.1.2.2.2.1,a.2.2.2.1,a.2.2.2.2.1,a.2.2.2.2.2.1,r2.2)).bind fun r3=>
 (f101_m (r1,r2.1,r3.1)).bind fun r4=>
 cond r4.1.1
 (cond r4.2.1
 (K ((false,([],[])),r3.2))
 ((loopAll (f52_l8.m (a.1.2.2.1,a.1.2.2.2.1,a.2.2.1,false,r4,a.2.2.2.1,a.2.2.2.2.1,a.2.2.2.2.2.1,r3.2,a.2.2.2.2.2.2.2.2)) (0,a.2.2.2.2.2.2.2.1)).bind fun e5=>
 Sum.elim (fun e6=>K ((false,([],[])),r3.2))
 (fun e7=>K ((a.2.2.1,(e7,a.2.2.2.2.2.2.2.2)),r3.2)) e5))
 ((loopAll (f52_l8.m (a.1.2.2.1,a.1.2.2.2.1,a.2.2.1,false,r4,a.2.2.2.1,a.2.2.2.2.1,a.2.2.2.2.2.1,r3.2,a.2.2.2.2.2.2.2.2)) (0,a.2.2.2.2.2.2.2.1)).bind fun e8=>
 Sum.elim (fun e9=>K ((false,([],[])),r3.2))
 (fun e10=>K ((a.2.2.1,(e10,a.2.2.2.2.2.2.2.2)),r3.2)) e8))
 ((Rec47.m (a.1.2.2.1,a.2.2.2.1,a.2.2.2.2.1,a.2.2.2.2.2.1,a.2.2.2.2.2.2.1)).bind fun r11=>
 (Rec47.m (a.1.2.2.2.1,a.2.2.2.1,a.2.2.2.2.1,a.2.2.2.2.2.1,r11.2)).bind fun r12=>
 (f101_m (a.1.2.2.2.2.1,r11.1,r12.1)).bind fun r13=>
 cond r13.1.1
 (cond r13.2.1
 (K ((false,([],[])),r12.2))
 ((loopAll (f52_l8.m (a.1.2.2.1,a.1.2.2.2.1,a.2.2.1,false,r13,a.2.2.2.1,a.2.2.2.2.1,a.2.2.2.2.2.1,r12.2,a.2.2.2.2.2.2.2.2)) (0,a.2.2.2.2.2.2.2.1)).bind fun e14=>
 Sum.elim (fun e15=>K ((false,([],[])),r12.2))
 (fun e16=>K ((a.2.2.1,(e16,a.2.2.2.2.2.2.2.2)),r12.2)) e14))
 ((loopAll (f52_l8.m (a.1.2.2.1,a.1.2.2.2.1,a.2.2.1,false,r13,a.2.2.2.1,a.2.2.2.2.1,a.2.2.2.2.2.1,r12.2,a.2.2.2.2.2.2.2.2)) (0,a.2.2.2.2.2.2.2.1)).bind fun e17=>
 Sum.elim (fun e18=>K ((false,([],[])),r12.2))
 (fun e19=>K ((a.2.2.1,(e19,a.2.2.2.2.2.2.2.2)),r12.2)) e17))
def f52_m (a:TInstr×Int×Bool×TGraph×TMods×(List (Int×TInstr))×(List (Int×TCongr))×(List TCongr)×(List TCongr)):Option (TMods×(List (Int×TCongr))):=f52_c a some
def f52_sp:Spec:=f52_s.sp f52_m
noncomputable def f52_e:Env:=⟨fun k=>[].contains k,callsL [(100,f100_sp),(47,f47_sp),(101,f101_sp),(102,f102_sp)],fun X k s K=>if k=8 then f52_l8.q X s K else none⟩
noncomputable def f52_l8_c:Code:=subAt [1,1,1,1,1,0,1,0,0] (bodyOf Tryz.f52)
theorem f52_l8_ok {C:V.Callee} (hc:SimCall C f52_e.call):LoopSim f52_e.loop (vc par C true [5,7,8,10,11,1000025,1000029] 81) (.loop f52_l8_c):=
 loop_form glob_ok hc (lp_of (by kernel_rfl) lp_nil) f52_l8 (by kernel_rfl) (by intros;simp only [f52_l8,LD.m,n1,n2,n3,n4,n5,n6,n7,n8]) (fun _ _=>by kernel_rfl) (fun _=>rfl) (fun _ _ e _=>by rcases e with e|e<;>rfl) (fun _ _ _=>by kernel_rfl)
theorem f52_ok:OK (166020696663385964545) 52 (f52_s.sp f52_m):=
 fnOK (d:=166020696663385964544) (env:=f52_e) (callsL_sim (cc f100_ok (cc f47_ok (cc f101_ok (cc f102_ok cn))))) (fn:=Tryz.f52) (locs:=[5,7,8,10,11,1000025,1000029]) (sh:=(.kill [4,5] (.agg [.any,(.lit cCongr),(.lit cCongr)]))) (fz:=true) (by kernel_rfl) (fun hc=>(lp_of (by kernel_rfl) (lp_cons (f52_l8_ok hc) lp_nil))) (mc:=fun X a K=>f52_c a K) (fun _ _ _=>by kernel_rfl) (by intros;simp only [f52_m,f52_c,n1,n2,n3,n4,n5,n6,n7,n8]) (fun _=>rfl)
def f16_s:FS (TGraph×TMods×Int×Int) (TMods) where
 sk:=⟨(.cons (.agg (.cons (.lit cInstr) (.cons (.int .i64) (.cons (.int .i64) (.cons (.int .i64) (.cons (.lit cArray) (.cons (.lit cScalar) (.cons (.lit cArray) (.cons (.lit cItv) .nil))))))))) (.cons (.agg (.cons .bool (.cons (.lit cCongr) (.cons (.lit cCongr) .nil)))) (.cons (.int .i64) (.cons (.int .i64) .nil)))),[],0⟩
 a:=fun u=>((u.1.1.1,(u.1.1.2.1,(u.1.1.2.2.1,(u.1.1.2.2.2.1,(u.1.1.2.2.2.2.1,(u.1.1.2.2.2.2.2.1,(u.1.1.2.2.2.2.2.2.1,u.1.1.2.2.2.2.2.2.2.1))))))),(u.1.2.1.1,(u.1.2.1.2.1,u.1.2.1.2.2.1)),u.1.2.2.1,u.1.2.2.2.1)
 n:=fun a=>(((a.1.1,(a.1.2.1,(a.1.2.2.1,(a.1.2.2.2.1,(a.1.2.2.2.2.1,(a.1.2.2.2.2.2.1,(a.1.2.2.2.2.2.2.1,(a.1.2.2.2.2.2.2.2,())))))))),((a.2.1.1,(a.2.1.2.1,(a.2.1.2.2,()))),(a.2.2.1,(a.2.2.2,())))),())
 o:=fun Z a r K=>K (.agg [.bool r.1,.lit cCongr r.2.1,.lit cCongr r.2.2]) ⟨[],0⟩
def f16_r1:PD (TItv×TGraph×TMods×Bool) (Bool) where
 sk:=⟨[(2,.v (.int .i64)),(3,.v (.int .i64)),(4,.loc 0 0),(5,.loc 1 0),(8,.loc 2 0)],[(.cons (.lit cInstr) (.cons (.int .i64) (.cons (.int .i64) (.cons (.int .i64) (.cons (.lit cArray) (.cons (.lit cScalar) (.cons (.lit cArray) (.cons (.lit cItv) .nil)))))))),(.cons .bool (.cons (.lit cCongr) (.cons (.lit cCongr) .nil))),(.cons .bool (.cons .nils (.cons .nils .nil)))],[],0,0⟩
 p:=fun u=>((u.1.1,u.1.2.1),(u.2.1.1.1,(u.2.1.1.2.1,(u.2.1.1.2.2.1,(u.2.1.1.2.2.2.1,(u.2.1.1.2.2.2.2.1,(u.2.1.1.2.2.2.2.2.1,(u.2.1.1.2.2.2.2.2.2.1,u.2.1.1.2.2.2.2.2.2.2.1))))))),(u.2.1.2.1.1,(u.2.1.2.1.2.1,u.2.1.2.1.2.2.1)),u.2.1.2.2.1.1)
 n:=fun p=>((p.1.1,(p.1.2,())),(((p.2.1.1,(p.2.1.2.1,(p.2.1.2.2.1,(p.2.1.2.2.2.1,(p.2.1.2.2.2.2.1,(p.2.1.2.2.2.2.2.1,(p.2.1.2.2.2.2.2.2.1,(p.2.1.2.2.2.2.2.2.2,())))))))),((p.2.2.1.1,(p.2.2.1.2.1,(p.2.2.1.2.2,()))),((p.2.2.2,((),((),()))),()))),()))
 st:=fun Y p ke=>cond (!p.2.2.1.1)
  (ke (true))
  (cond (decide (p.1.2<(0:Int)))
  (ke (true))
  (cond (decide ((1:Int)<p.1.2))
  (ke (true))
  (ask (V.inRange p.1.1 (List.length p.2.1.1)) (cond (decide (p.1.2=(0:Int)))
  (ke ((decide ((gx p.2.1.1 (Int.toNat p.1.1) dInstr).2.2.2.2.2.2.1=(-1:Int)))))
  (cond (decide (p.1.2=(1:Int)))
  (ke ((decide ((gx p.2.1.1 (Int.toNat p.1.1) dInstr).2.2.2.2.2.2.2=(-1:Int)))))
  (none))))))
 o:=fun Z p e K=>K .normal ⟨[(2,.v (.int .i64 p.1.1)),(3,.v (.int .i64 p.1.2)),(4,.loc 0 0),(5,.loc 1 0),(8,.loc 2 0),(35,.v (.bool e))],[[.lit cInstr p.2.1.1,.int .i64 p.2.1.2.1,.int .i64 p.2.1.2.2.1,.int .i64 p.2.1.2.2.2.1,.lit cArray p.2.1.2.2.2.2.1,.lit cScalar p.2.1.2.2.2.2.2.1,.lit cArray p.2.1.2.2.2.2.2.2.1,.lit cItv p.2.1.2.2.2.2.2.2.2],[.bool p.2.2.1.1,.lit cCongr p.2.2.1.2.1,.lit cCongr p.2.2.1.2.2],[.bool p.2.2.2,.nils,.nils]],⟨[],0⟩,0⟩
 pol:=⟨[2,3,4,5,8],[],[],[]⟩
 pe:=[(.normal,⟨[2,3,4,5,8,35],[],[],[]⟩)]
def f16_r4:PD (Int×TGraph×Bool×TInstr×Bool×TGraph×TMods×((List (Int×TInstr))×(List (Int×TCongr)))×((List TCongr)×(List TCongr))) (Bool) where
 sk:=⟨[(3,.v (.int .i64)),(4,.loc 0 0),(8,.loc 1 0),(9,.v (.ptr 0 0)),(10,.loc 2 0),(11,.loc 3 0)],[(.cons (.lit cInstr) (.cons (.int .i64) (.cons (.int .i64) (.cons (.int .i64) (.cons (.lit cArray) (.cons (.lit cScalar) (.cons (.lit cArray) (.cons (.lit cItv) .nil)))))))),(.cons .bool (.cons .nils (.cons .nils .nil))),(.cons (.int .i64) (.cons (.int .i64) (.cons (.int .i64) (.cons (.int .i64) (.cons (.int .i64) (.cons (.int .i64) (.cons (.int .i64) (.cons (.int .i64) .nil)))))))),(.cons .bool (.cons (.all 4) (.cons (.all 5) .nil)))],[.opn (.cons (.lit cInstr) (.cons (.int .i64) (.cons (.int .i64) (.cons (.int .i64) (.cons (.lit cArray) (.cons (.lit cScalar) (.cons (.lit cArray) (.cons (.lit cItv) (.cons .bool (.cons (.lit cCongr) (.cons (.lit cCongr) (.cons (.mp 1) (.cons (.mp 2) (.cons (.mp 3) .nil)))))))))))))),.mapT (.int .i64) true cInstr,.mapT (.int .i64) true cCongr,.mapL (.int .i64) [((2:Int),(.fn 85 .nil)),((3:Int),(.fn 87 .nil)),((4:Int),(.fn 89 .nil)),((5:Int),(.fn 90 .nil)),((6:Int),(.fn 91 .nil)),((7:Int),(.fn 92 .nil)),((8:Int),(.fn 93 .nil)),((9:Int),(.fn 83 .nil)),((10:Int),(.fn 83 .nil))],.cells cCongr,.cells cCongr],0,0⟩
 p:=fun u=>(u.1.1,(u.2.1.1.1,(u.2.1.1.2.1,(u.2.1.1.2.2.1,(u.2.1.1.2.2.2.1,(u.2.1.1.2.2.2.2.1,(u.2.1.1.2.2.2.2.2.1,(u.2.1.1.2.2.2.2.2.2.1,u.2.1.1.2.2.2.2.2.2.2.1))))))),u.2.1.2.1.1,(u.2.1.2.2.1.1,(u.2.1.2.2.1.2.1,(u.2.1.2.2.1.2.2.1,(u.2.1.2.2.1.2.2.2.1,(u.2.1.2.2.1.2.2.2.2.1,(u.2.1.2.2.1.2.2.2.2.2.1,(u.2.1.2.2.1.2.2.2.2.2.2.1,u.2.1.2.2.1.2.2.2.2.2.2.2.1))))))),u.2.1.2.2.2.1.1,(u.2.2.1.1,(u.2.2.1.2.1,(u.2.2.1.2.2.1,(u.2.2.1.2.2.2.1,(u.2.2.1.2.2.2.2.1,(u.2.2.1.2.2.2.2.2.1,(u.2.2.1.2.2.2.2.2.2.1,u.2.2.1.2.2.2.2.2.2.2.1))))))),(u.2.2.1.2.2.2.2.2.2.2.2.1,(u.2.2.1.2.2.2.2.2.2.2.2.2.1,u.2.2.1.2.2.2.2.2.2.2.2.2.2.1)),(u.2.2.2.1,u.2.2.2.2.1),(u.2.2.2.2.2.2.1,u.2.2.2.2.2.2.2.1))
 n:=fun p=>((p.1,((),())),(((p.2.1.1,(p.2.1.2.1,(p.2.1.2.2.1,(p.2.1.2.2.2.1,(p.2.1.2.2.2.2.1,(p.2.1.2.2.2.2.2.1,(p.2.1.2.2.2.2.2.2.1,(p.2.1.2.2.2.2.2.2.2,())))))))),((p.2.2.1,((),((),()))),((p.2.2.2.1.1,(p.2.2.2.1.2.1,(p.2.2.2.1.2.2.1,(p.2.2.2.1.2.2.2.1,(p.2.2.2.1.2.2.2.2.1,(p.2.2.2.1.2.2.2.2.2.1,(p.2.2.2.1.2.2.2.2.2.2.1,(p.2.2.2.1.2.2.2.2.2.2.2,())))))))),((p.2.2.2.2.1,((),((),()))),())))),((p.2.2.2.2.2.1.1,(p.2.2.2.2.2.1.2.1,(p.2.2.2.2.2.1.2.2.1,(p.2.2.2.2.2.1.2.2.2.1,(p.2.2.2.2.2.1.2.2.2.2.1,(p.2.2.2.2.2.1.2.2.2.2.2.1,(p.2.2.2.2.2.1.2.2.2.2.2.2.1,(p.2.2.2.2.2.1.2.2.2.2.2.2.2,(p.2.2.2.2.2.2.1.1,(p.2.2.2.2.2.2.1.2.1,(p.2.2.2.2.2.2.1.2.2,((),((),((),())))))))))))))),(p.2.2.2.2.2.2.2.1.1,(p.2.2.2.2.2.2.2.1.2,(((),((),((),((),((),((),((),((),((),()))))))))),(p.2.2.2.2.2.2.2.2.1,(p.2.2.2.2.2.2.2.2.2,()))))))))
 st:=fun Y p ke=>cond (decide ((2:Int)≤p.2.2.2.1.1))
  (ke ((decide (p.2.2.2.1.1≤(8:Int)))))
  (ke (false))
 o:=fun Z p e K=>K .normal ⟨[(3,.v (.int .i64 p.1)),(4,.loc 0 0),(8,.loc 1 0),(9,.v (.ptr 0 0)),(10,.loc 2 0),(11,.loc 3 0),(47,.v (.bool e))],[[.lit cInstr p.2.1.1,.int .i64 p.2.1.2.1,.int .i64 p.2.1.2.2.1,.int .i64 p.2.1.2.2.2.1,.lit cArray p.2.1.2.2.2.2.1,.lit cScalar p.2.1.2.2.2.2.2.1,.lit cArray p.2.1.2.2.2.2.2.2.1,.lit cItv p.2.1.2.2.2.2.2.2.2],[.bool p.2.2.1,.nils,.nils],[.int .i64 p.2.2.2.1.1,.int .i64 p.2.2.2.1.2.1,.int .i64 p.2.2.2.1.2.2.1,.int .i64 p.2.2.2.1.2.2.2.1,.int .i64 p.2.2.2.1.2.2.2.2.1,.int .i64 p.2.2.2.1.2.2.2.2.2.1,.int .i64 p.2.2.2.1.2.2.2.2.2.2.1,.int .i64 p.2.2.2.1.2.2.2.2.2.2.2],[.bool p.2.2.2.2.1,.all 4,.all 5]],⟨[.opn [.lit cInstr p.2.2.2.2.2.1.1,.int .i64 p.2.2.2.2.2.1.2.1,.int .i64 p.2.2.2.2.2.1.2.2.1,.int .i64 p.2.2.2.2.2.1.2.2.2.1,.lit cArray p.2.2.2.2.2.1.2.2.2.2.1,.lit cScalar p.2.2.2.2.2.1.2.2.2.2.2.1,.lit cArray p.2.2.2.2.2.1.2.2.2.2.2.2.1,.lit cItv p.2.2.2.2.2.1.2.2.2.2.2.2.2,.bool p.2.2.2.2.2.2.1.1,.lit cCongr p.2.2.2.2.2.2.1.2.1,.lit cCongr p.2.2.2.2.2.2.1.2.2,.mp 1,.mp 2,.mp 3],.mapT (.int .i64) true cInstr p.2.2.2.2.2.2.2.1.1,.mapT (.int .i64) true cCongr p.2.2.2.2.2.2.2.1.2,.mapL (.int .i64) [((2:Int),.fn 85 []),((3:Int),.fn 87 []),((4:Int),.fn 89 []),((5:Int),.fn 90 []),((6:Int),.fn 91 []),((7:Int),.fn 92 []),((8:Int),.fn 93 []),((9:Int),.fn 83 []),((10:Int),.fn 83 [])],.cells cCongr p.2.2.2.2.2.2.2.2.1,.cells cCongr p.2.2.2.2.2.2.2.2.2],0⟩,0⟩
 pol:=⟨[3,4,8,9,10,11],[],[],[]⟩
 pe:=[(.normal,⟨[3,4,8,9,10,11,47],[],[],[]⟩)]
def f16_c17:PD (Bool×Bool×TInstr×Bool×TCongr×((List TCongr)×(List TCongr))) (Bool×Int×Int) where
 sk:=⟨[(8,.loc 0 0),(10,.loc 1 0),(11,.loc 2 0),(13,.loc 3 0),(113,.v .bool)],[(.cons .bool (.cons .nils (.cons .nils .nil))),(.cons (.int .i64) (.cons (.int .i64) (.cons (.int .i64) (.cons (.int .i64) (.cons (.int .i64) (.cons (.int .i64) (.cons (.int .i64) (.cons (.int .i64) .nil)))))))),(.cons .bool (.cons (.all 0) (.cons (.all 1) .nil))),(.cons .bool (.cons (.int .i64) (.cons (.int .i64) .nil)))],[.cells cCongr,.cells cCongr],0,0⟩
 p:=fun u=>(u.1.1,u.2.1.1.1,(u.2.1.2.1.1,(u.2.1.2.1.2.1,(u.2.1.2.1.2.2.1,(u.2.1.2.1.2.2.2.1,(u.2.1.2.1.2.2.2.2.1,(u.2.1.2.1.2.2.2.2.2.1,(u.2.1.2.1.2.2.2.2.2.2.1,u.2.1.2.1.2.2.2.2.2.2.2.1))))))),u.2.1.2.2.1.1,(u.2.1.2.2.2.1.1,(u.2.1.2.2.2.1.2.1,u.2.1.2.2.2.1.2.2.1)),(u.2.2.1,u.2.2.2.1))
 n:=fun p=>((p.1,()),(((p.2.1,((),((),()))),((p.2.2.1.1,(p.2.2.1.2.1,(p.2.2.1.2.2.1,(p.2.2.1.2.2.2.1,(p.2.2.1.2.2.2.2.1,(p.2.2.1.2.2.2.2.2.1,(p.2.2.1.2.2.2.2.2.2.1,(p.2.2.1.2.2.2.2.2.2.2,())))))))),((p.2.2.2.1,((),((),()))),((p.2.2.2.2.1.1,(p.2.2.2.2.1.2.1,(p.2.2.2.2.1.2.2,()))),())))),(p.2.2.2.2.2.1,(p.2.2.2.2.2.2,()))))
 st:=fun Y p ke=>cond p.1
  (ask (V.inRange p.2.2.1.2.2.1 (List.length p.2.2.2.2.2.2)) ((f51_m ((gx p.2.2.2.2.2.2 (Int.toNat p.2.2.1.2.2.1) dCongr),p.2.2.2.2.1)).bind fun r1=>
  ke ((r1.1,r1.2.1,r1.2.2))))
  (ke ((p.2.2.2.2.1.1,p.2.2.2.2.1.2.1,p.2.2.2.2.1.2.2)))
 o:=fun Z p e K=>K .normal ⟨[(8,.loc 0 0),(10,.loc 1 0),(11,.loc 2 0),(13,.loc 3 0)],[[.bool p.2.1,.nils,.nils],[.int .i64 p.2.2.1.1,.int .i64 p.2.2.1.2.1,.int .i64 p.2.2.1.2.2.1,.int .i64 p.2.2.1.2.2.2.1,.int .i64 p.2.2.1.2.2.2.2.1,.int .i64 p.2.2.1.2.2.2.2.2.1,.int .i64 p.2.2.1.2.2.2.2.2.2.1,.int .i64 p.2.2.1.2.2.2.2.2.2.2],[.bool p.2.2.2.1,.all 0,.all 1],[.bool e.1,.int .i64 e.2.1,.int .i64 e.2.2]],⟨[.cells cCongr p.2.2.2.2.2.1,.cells cCongr p.2.2.2.2.2.2],0⟩,0⟩
 pol:=⟨[8,10,11,13,113],[],[],[]⟩
 pe:=[(.normal,⟨[8,10,11,13],[],[],[]⟩)]
def f16_c13:PD (Int×Bool×(TGraph×(Bool×(TInstr×(Bool×(TGraph×(TMods×(((List (Int×TInstr))×(List (Int×TCongr)))×((List TCongr)×(List TCongr)))))))))) ((Bool×(List TCongr)×(List TCongr)) ⊕ ((List TCongr))) where
 sk:=⟨[(3,.v (.int .i64)),(4,.loc 0 0),(8,.loc 1 0),(9,.v (.ptr 0 0)),(10,.loc 2 0),(11,.loc 3 0),(87,.v .bool)],[(.cons (.lit cInstr) (.cons (.int .i64) (.cons (.int .i64) (.cons (.int .i64) (.cons (.lit cArray) (.cons (.lit cScalar) (.cons (.lit cArray) (.cons (.lit cItv) .nil)))))))),(.cons .bool (.cons .nils (.cons .nils .nil))),(.cons (.int .i64) (.cons (.int .i64) (.cons (.int .i64) (.cons (.int .i64) (.cons (.int .i64) (.cons (.int .i64) (.cons (.int .i64) (.cons (.int .i64) .nil)))))))),(.cons .bool (.cons (.all 4) (.cons (.all 5) .nil)))],[.opn (.cons (.lit cInstr) (.cons (.int .i64) (.cons (.int .i64) (.cons (.int .i64) (.cons (.lit cArray) (.cons (.lit cScalar) (.cons (.lit cArray) (.cons (.lit cItv) (.cons .bool (.cons (.lit cCongr) (.cons (.lit cCongr) (.cons (.mp 1) (.cons (.mp 2) (.cons (.mp 3) .nil)))))))))))))),.mapT (.int .i64) true cInstr,.mapT (.int .i64) true cCongr,.mapL (.int .i64) [((2:Int),(.fn 85 .nil)),((3:Int),(.fn 87 .nil)),((4:Int),(.fn 89 .nil)),((5:Int),(.fn 90 .nil)),((6:Int),(.fn 91 .nil)),((7:Int),(.fn 92 .nil)),((8:Int),(.fn 93 .nil)),((9:Int),(.fn 83 .nil)),((10:Int),(.fn 83 .nil))],.cells cCongr,.cells cCongr],0,0⟩
 p:=fun u=>(u.1.1,u.1.2.2.1,((u.2.1.1.1,(u.2.1.1.2.1,(u.2.1.1.2.2.1,(u.2.1.1.2.2.2.1,(u.2.1.1.2.2.2.2.1,(u.2.1.1.2.2.2.2.2.1,(u.2.1.1.2.2.2.2.2.2.1,u.2.1.1.2.2.2.2.2.2.2.1))))))),(u.2.1.2.1.1,((u.2.1.2.2.1.1,(u.2.1.2.2.1.2.1,(u.2.1.2.2.1.2.2.1,(u.2.1.2.2.1.2.2.2.1,(u.2.1.2.2.1.2.2.2.2.1,(u.2.1.2.2.1.2.2.2.2.2.1,(u.2.1.2.2.1.2.2.2.2.2.2.1,u.2.1.2.2.1.2.2.2.2.2.2.2.1))))))),(u.2.1.2.2.2.1.1,((u.2.2.1.1,(u.2.2.1.2.1,(u.2.2.1.2.2.1,(u.2.2.1.2.2.2.1,(u.2.2.1.2.2.2.2.1,(u.2.2.1.2.2.2.2.2.1,(u.2.2.1.2.2.2.2.2.2.1,u.2.2.1.2.2.2.2.2.2.2.1))))))),((u.2.2.1.2.2.2.2.2.2.2.2.1,(u.2.2.1.2.2.2.2.2.2.2.2.2.1,u.2.2.1.2.2.2.2.2.2.2.2.2.2.1)),((u.2.2.2.1,u.2.2.2.2.1),(u.2.2.2.2.2.2.1,u.2.2.2.2.2.2.2.1)))))))))
 n:=fun p=>((p.1,((),(p.2.1,()))),(((p.2.2.1.1,(p.2.2.1.2.1,(p.2.2.1.2.2.1,(p.2.2.1.2.2.2.1,(p.2.2.1.2.2.2.2.1,(p.2.2.1.2.2.2.2.2.1,(p.2.2.1.2.2.2.2.2.2.1,(p.2.2.1.2.2.2.2.2.2.2,())))))))),((p.2.2.2.1,((),((),()))),((p.2.2.2.2.1.1,(p.2.2.2.2.1.2.1,(p.2.2.2.2.1.2.2.1,(p.2.2.2.2.1.2.2.2.1,(p.2.2.2.2.1.2.2.2.2.1,(p.2.2.2.2.1.2.2.2.2.2.1,(p.2.2.2.2.1.2.2.2.2.2.2.1,(p.2.2.2.2.1.2.2.2.2.2.2.2,())))))))),((p.2.2.2.2.2.1,((),((),()))),())))),((p.2.2.2.2.2.2.1.1,(p.2.2.2.2.2.2.1.2.1,(p.2.2.2.2.2.2.1.2.2.1,(p.2.2.2.2.2.2.1.2.2.2.1,(p.2.2.2.2.2.2.1.2.2.2.2.1,(p.2.2.2.2.2.2.1.2.2.2.2.2.1,(p.2.2.2.2.2.2.1.2.2.2.2.2.2.1,(p.2.2.2.2.2.2.1.2.2.2.2.2.2.2,(p.2.2.2.2.2.2.2.1.1,(p.2.2.2.2.2.2.2.1.2.1,(p.2.2.2.2.2.2.2.1.2.2,((),((),((),())))))))))))))),(p.2.2.2.2.2.2.2.2.1.1,(p.2.2.2.2.2.2.2.2.1.2,(((),((),((),((),((),((),((),((),((),()))))))))),(p.2.2.2.2.2.2.2.2.2.1,(p.2.2.2.2.2.2.2.2.2.2,()))))))))
 st:=fun Y p ke=>cond p.2.1
  ((Rec47.m (p.2.2.2.2.1.2.1,p.2.2.2.2.2.2.1,p.2.2.2.2.2.2.2.1,p.2.2.2.2.2.2.2.2.1.1,p.2.2.2.2.2.2.2.2.1.2)).bind fun r1=>
  ask (V.inRange p.2.2.2.2.1.2.2.1 (List.length p.2.2.1.2.2.2.2.2.2.1)) ((f50_m (r1.1,(gx p.2.2.1.2.2.2.2.2.2.1 (Int.toNat p.2.2.2.2.1.2.2.1) dArray).2.1)).bind fun r2=>
  cond r2.1
  (ke (.inl (false,[],[])))
  (ask (V.inRange p.2.2.2.2.1.2.2.1 (List.length p.2.2.1.2.2.2.2.2.2.1)) ((f16_c17.m ((decide ((1:Int)<(gx p.2.2.1.2.2.2.2.2.2.1 (Int.toNat p.2.2.2.2.1.2.2.1) dArray).2.2.1)),p.2.2.2.1,p.2.2.2.2.1,p.2.2.2.2.2.1,r2,p.2.2.2.2.2.2.2.2.2)).bind fun e3=>
  ask (V.inRange p.2.2.2.2.1.2.2.1 (List.length p.2.2.2.2.2.2.2.2.2.2)) (ke (.inr ((List.set p.2.2.2.2.2.2.2.2.2.2 (Int.toNat p.2.2.2.2.1.2.2.1) e3))))))))
  (cond (decide (p.2.2.2.2.1.1=(15:Int)))
  ((f52_m (p.2.2.2.2.1,p.1,p.2.2.2.2.2.1,p.2.2.2.2.2.2.1,p.2.2.2.2.2.2.2.1,p.2.2.2.2.2.2.2.2.1.1,p.2.2.2.2.2.2.2.2.1.2,p.2.2.2.2.2.2.2.2.2.1,p.2.2.2.2.2.2.2.2.2.2)).bind fun r4=>
  ke (.inl (r4.1.1,r4.1.2.1,r4.1.2.2)))
  (ke (.inr (p.2.2.2.2.2.2.2.2.2.2))))
 o:=fun Z p e K=>Sum.elim (fun e=>K .ret ⟨[(8,.loc 0 0)],[[.bool e.1,.lit cCongr e.2.1,.lit cCongr e.2.2]],⟨[],0⟩,0⟩) (fun e=>K .normal ⟨[(8,.loc 0 0),(11,.loc 1 0)],[[.bool p.2.2.2.1,.nils,.nils],[.bool p.2.2.2.2.2.1,.all 0,.all 1]],⟨[.cells cCongr p.2.2.2.2.2.2.2.2.2.1,.cells cCongr e],0⟩,0⟩) e
 pol:=⟨[3,4,8,9,10,11,87],[],[],[]⟩
 pe:=[(.ret,⟨[8],[],[(0,[.any,(.lit cCongr),(.lit cCongr)])],[]⟩),(.normal,⟨[8,11],[],[],[]⟩)]
def f16_c8:PD (Int×Bool×(TGraph×(Bool×(TInstr×(Bool×(TGraph×(TMods×(((List (Int×TInstr))×(List (Int×TCongr)))×((List TCongr)×(List TCongr)))))))))) ((Bool×(List TCongr)×(List TCongr)) ⊕ ((List TCongr)×(List TCongr))) where
 sk:=⟨[(3,.v (.int .i64)),(4,.loc 0 0),(8,.loc 1 0),(9,.v (.ptr 0 0)),(10,.loc 2 0),(11,.loc 3 0),(62,.v .bool)],[(.cons (.lit cInstr) (.cons (.int .i64) (.cons (.int .i64) (.cons (.int .i64) (.cons (.lit cArray) (.cons (.lit cScalar) (.cons (.lit cArray) (.cons (.lit cItv) .nil)))))))),(.cons .bool (.cons .nils (.cons .nils .nil))),(.cons (.int .i64) (.cons (.int .i64) (.cons (.int .i64) (.cons (.int .i64) (.cons (.int .i64) (.cons (.int .i64) (.cons (.int .i64) (.cons (.int .i64) .nil)))))))),(.cons .bool (.cons (.all 4) (.cons (.all 5) .nil)))],[.opn (.cons (.lit cInstr) (.cons (.int .i64) (.cons (.int .i64) (.cons (.int .i64) (.cons (.lit cArray) (.cons (.lit cScalar) (.cons (.lit cArray) (.cons (.lit cItv) (.cons .bool (.cons (.lit cCongr) (.cons (.lit cCongr) (.cons (.mp 1) (.cons (.mp 2) (.cons (.mp 3) .nil)))))))))))))),.mapT (.int .i64) true cInstr,.mapT (.int .i64) true cCongr,.mapL (.int .i64) [((2:Int),(.fn 85 .nil)),((3:Int),(.fn 87 .nil)),((4:Int),(.fn 89 .nil)),((5:Int),(.fn 90 .nil)),((6:Int),(.fn 91 .nil)),((7:Int),(.fn 92 .nil)),((8:Int),(.fn 93 .nil)),((9:Int),(.fn 83 .nil)),((10:Int),(.fn 83 .nil))],.cells cCongr,.cells cCongr],0,0⟩
 p:=fun u=>(u.1.1,u.1.2.2.1,((u.2.1.1.1,(u.2.1.1.2.1,(u.2.1.1.2.2.1,(u.2.1.1.2.2.2.1,(u.2.1.1.2.2.2.2.1,(u.2.1.1.2.2.2.2.2.1,(u.2.1.1.2.2.2.2.2.2.1,u.2.1.1.2.2.2.2.2.2.2.1))))))),(u.2.1.2.1.1,((u.2.1.2.2.1.1,(u.2.1.2.2.1.2.1,(u.2.1.2.2.1.2.2.1,(u.2.1.2.2.1.2.2.2.1,(u.2.1.2.2.1.2.2.2.2.1,(u.2.1.2.2.1.2.2.2.2.2.1,(u.2.1.2.2.1.2.2.2.2.2.2.1,u.2.1.2.2.1.2.2.2.2.2.2.2.1))))))),(u.2.1.2.2.2.1.1,((u.2.2.1.1,(u.2.2.1.2.1,(u.2.2.1.2.2.1,(u.2.2.1.2.2.2.1,(u.2.2.1.2.2.2.2.1,(u.2.2.1.2.2.2.2.2.1,(u.2.2.1.2.2.2.2.2.2.1,u.2.2.1.2.2.2.2.2.2.2.1))))))),((u.2.2.1.2.2.2.2.2.2.2.2.1,(u.2.2.1.2.2.2.2.2.2.2.2.2.1,u.2.2.1.2.2.2.2.2.2.2.2.2.2.1)),((u.2.2.2.1,u.2.2.2.2.1),(u.2.2.2.2.2.2.1,u.2.2.2.2.2.2.2.1)))))))))
 n:=fun p=>((p.1,((),(p.2.1,()))),(((p.2.2.1.1,(p.2.2.1.2.1,(p.2.2.1.2.2.1,(p.2.2.1.2.2.2.1,(p.2.2.1.2.2.2.2.1,(p.2.2.1.2.2.2.2.2.1,(p.2.2.1.2.2.2.2.2.2.1,(p.2.2.1.2.2.2.2.2.2.2,())))))))),((p.2.2.2.1,((),((),()))),((p.2.2.2.2.1.1,(p.2.2.2.2.1.2.1,(p.2.2.2.2.1.2.2.1,(p.2.2.2.2.1.2.2.2.1,(p.2.2.2.2.1.2.2.2.2.1,(p.2.2.2.2.1.2.2.2.2.2.1,(p.2.2.2.2.1.2.2.2.2.2.2.1,(p.2.2.2.2.1.2.2.2.2.2.2.2,())))))))),((p.2.2.2.2.2.1,((),((),()))),())))),((p.2.2.2.2.2.2.1.1,(p.2.2.2.2.2.2.1.2.1,(p.2.2.2.2.2.2.1.2.2.1,(p.2.2.2.2.2.2.1.2.2.2.1,(p.2.2.2.2.2.2.1.2.2.2.2.1,(p.2.2.2.2.2.2.1.2.2.2.2.2.1,(p.2.2.2.2.2.2.1.2.2.2.2.2.2.1,(p.2.2.2.2.2.2.1.2.2.2.2.2.2.2,(p.2.2.2.2.2.2.2.1.1,(p.2.2.2.2.2.2.2.1.2.1,(p.2.2.2.2.2.2.2.1.2.2,((),((),((),())))))))))))))),(p.2.2.2.2.2.2.2.2.1.1,(p.2.2.2.2.2.2.2.2.1.2,(((),((),((),((),((),((),((),((),((),()))))))))),(p.2.2.2.2.2.2.2.2.2.1,(p.2.2.2.2.2.2.2.2.2.2,()))))))))
 st:=fun Y p ke=>cond p.2.1
  ((Rec47.m (p.2.2.2.2.1.2.2.1,p.2.2.2.2.2.2.1,p.2.2.2.2.2.2.2.1,p.2.2.2.2.2.2.2.2.1.1,p.2.2.2.2.2.2.2.2.1.2)).bind fun r1=>
  ask (V.inRange p.2.2.2.2.1.2.1 (List.length p.2.2.1.2.2.2.2.2.1)) ((f50_m (r1.1,(gx p.2.2.1.2.2.2.2.2.1 (Int.toNat p.2.2.2.2.1.2.1) dScalar).2.1)).bind fun r2=>
  cond r2.1
  (ke (.inl (false,[],[])))
  (ask (V.inRange p.2.2.2.2.1.2.1 (List.length p.2.2.2.2.2.2.2.2.2.1)) (ke (.inr (((List.set p.2.2.2.2.2.2.2.2.2.1 (Int.toNat p.2.2.2.2.1.2.1) r2),p.2.2.2.2.2.2.2.2.2.2)))))))
  ((f16_c13.m (p.1,(decide (p.2.2.2.2.1.1=(14:Int))),p.2.2)).bind fun e3=>
  Sum.elim (fun e4=>ke (.inl (e4.1,e4.2.1,e4.2.2)))
  (fun e5=>ke (.inr ((p.2.2.2.2.2.2.2.2.2.1,e5)))) e3)
 o:=fun Z p e K=>Sum.elim (fun e=>K .ret ⟨[(8,.loc 0 0)],[[.bool e.1,.lit cCongr e.2.1,.lit cCongr e.2.2]],⟨[],0⟩,0⟩) (fun e=>K .normal ⟨[(8,.loc 0 0),(11,.loc 1 0)],[[.bool p.2.2.2.1,.nils,.nils],[.bool p.2.2.2.2.2.1,.all 0,.all 1]],⟨[.cells cCongr e.1,.cells cCongr e.2],0⟩,0⟩) e
 pol:=⟨[3,4,8,9,10,11,62],[],[],[]⟩
 pe:=[(.ret,⟨[8],[],[(0,[.any,(.lit cCongr),(.lit cCongr)])],[]⟩),(.normal,⟨[8,11],[],[],[]⟩)]
def f16_c5:PD (Int×Bool×TGraph×Bool×TInstr×Bool×TGraph×TMods×((List (Int×TInstr))×(List (Int×TCongr)))×((List TCongr)×(List TCongr))) ((Bool×(List TCongr)×(List TCongr)) ⊕ ((List TCongr)×(List TCongr))) where
 sk:=⟨[(3,.v (.int .i64)),(4,.loc 0 0),(8,.loc 1 0),(9,.v (.ptr 0 0)),(10,.loc 2 0),(11,.loc 3 0),(47,.v .bool)],[(.cons (.lit cInstr) (.cons (.int .i64) (.cons (.int .i64) (.cons (.int .i64) (.cons (.lit cArray) (.cons (.lit cScalar) (.cons (.lit cArray) (.cons (.lit cItv) .nil)))))))),(.cons .bool (.cons .nils (.cons .nils .nil))),(.cons (.int .i64) (.cons (.int .i64) (.cons (.int .i64) (.cons (.int .i64) (.cons (.int .i64) (.cons (.int .i64) (.cons (.int .i64) (.cons (.int .i64) .nil)))))))),(.cons .bool (.cons (.all 4) (.cons (.all 5) .nil)))],[.opn (.cons (.lit cInstr) (.cons (.int .i64) (.cons (.int .i64) (.cons (.int .i64) (.cons (.lit cArray) (.cons (.lit cScalar) (.cons (.lit cArray) (.cons (.lit cItv) (.cons .bool (.cons (.lit cCongr) (.cons (.lit cCongr) (.cons (.mp 1) (.cons (.mp 2) (.cons (.mp 3) .nil)))))))))))))),.mapT (.int .i64) true cInstr,.mapT (.int .i64) true cCongr,.mapL (.int .i64) [((2:Int),(.fn 85 .nil)),((3:Int),(.fn 87 .nil)),((4:Int),(.fn 89 .nil)),((5:Int),(.fn 90 .nil)),((6:Int),(.fn 91 .nil)),((7:Int),(.fn 92 .nil)),((8:Int),(.fn 93 .nil)),((9:Int),(.fn 83 .nil)),((10:Int),(.fn 83 .nil))],.cells cCongr,.cells cCongr],0,0⟩
 p:=fun u=>(u.1.1,u.1.2.2.1,(u.2.1.1.1,(u.2.1.1.2.1,(u.2.1.1.2.2.1,(u.2.1.1.2.2.2.1,(u.2.1.1.2.2.2.2.1,(u.2.1.1.2.2.2.2.2.1,(u.2.1.1.2.2.2.2.2.2.1,u.2.1.1.2.2.2.2.2.2.2.1))))))),u.2.1.2.1.1,(u.2.1.2.2.1.1,(u.2.1.2.2.1.2.1,(u.2.1.2.2.1.2.2.1,(u.2.1.2.2.1.2.2.2.1,(u.2.1.2.2.1.2.2.2.2.1,(u.2.1.2.2.1.2.2.2.2.2.1,(u.2.1.2.2.1.2.2.2.2.2.2.1,u.2.1.2.2.1.2.2.2.2.2.2.2.1))))))),u.2.1.2.2.2.1.1,(u.2.2.1.1,(u.2.2.1.2.1,(u.2.2.1.2.2.1,(u.2.2.1.2.2.2.1,(u.2.2.1.2.2.2.2.1,(u.2.2.1.2.2.2.2.2.1,(u.2.2.1.2.2.2.2.2.2.1,u.2.2.1.2.2.2.2.2.2.2.1))))))),(u.2.2.1.2.2.2.2.2.2.2.2.1,(u.2.2.1.2.2.2.2.2.2.2.2.2.1,u.2.2.1.2.2.2.2.2.2.2.2.2.2.1)),(u.2.2.2.1,u.2.2.2.2.1),(u.2.2.2.2.2.2.1,u.2.2.2.2.2.2.2.1))
 n:=fun p=>((p.1,((),(p.2.1,()))),(((p.2.2.1.1,(p.2.2.1.2.1,(p.2.2.1.2.2.1,(p.2.2.1.2.2.2.1,(p.2.2.1.2.2.2.2.1,(p.2.2.1.2.2.2.2.2.1,(p.2.2.1.2.2.2.2.2.2.1,(p.2.2.1.2.2.2.2.2.2.2,())))))))),((p.2.2.2.1,((),((),()))),((p.2.2.2.2.1.1,(p.2.2.2.2.1.2.1,(p.2.2.2.2.1.2.2.1,(p.2.2.2.2.1.2.2.2.1,(p.2.2.2.2.1.2.2.2.2.1,(p.2.2.2.2.1.2.2.2.2.2.1,(p.2.2.2.2.1.2.2.2.2.2.2.1,(p.2.2.2.2.1.2.2.2.2.2.2.2,())))))))),((p.2.2.2.2.2.1,((),((),()))),())))),((p.2.2.2.2.2.2.1.1,(p.2.2.2.2.2.2.1.2.1,(p.2.2.2.2.2.2.1.2.2.1,(p.2.2.2.2.2.2.1.2.2.2.1,(p.2.2.2.2.2.2.1.2.2.2.2.1,(p.2.2.2.2.2.2.1.2.2.2.2.2.1,(p.2.2.2.2.2.2.1.2.2.2.2.2.2.1,(p.2.2.2.2.2.2.1.2.2.2.2.2.2.2,(p.2.2.2.2.2.2.2.1.1,(p.2.2.2.2.2.2.2.1.2.1,(p.2.2.2.2.2.2.2.1.2.2,((),((),((),())))))))))))))),(p.2.2.2.2.2.2.2.2.1.1,(p.2.2.2.2.2.2.2.2.1.2,(((),((),((),((),((),((),((),((),((),()))))))))),(p.2.2.2.2.2.2.2.2.2.1,(p.2.2.2.2.2.2.2.2.2.2,()))))))))
 st:=fun Y p ke=>cond p.2.1
  ((Rec47.m (p.2.2.2.2.1.2.1,p.2.2.2.2.2.2.1,p.2.2.2.2.2.2.2.1,p.2.2.2.2.2.2.2.2.1.1,p.2.2.2.2.2.2.2.2.1.2)).bind fun r1=>
  cond r1.1.1
  (ke (.inl (false,[],[])))
  (ke (.inr ((p.2.2.2.2.2.2.2.2.2.1,p.2.2.2.2.2.2.2.2.2.2)))))
  ((f16_c8.m (p.1,(decide (p.2.2.2.2.1.1=(13:Int))),p.2.2)).bind fun e2=>
  Sum.elim (fun e3=>ke (.inl (e3.1,e3.2.1,e3.2.2)))
  (fun e4=>ke (.inr ((e4.1,e4.2)))) e2)
 o:=fun Z p e K=>Sum.elim (fun e=>K .ret ⟨[(8,.loc 0 0)],[[.bool e.1,.lit cCongr e.2.1,.lit cCongr e.2.2]],⟨[],0⟩,0⟩) (fun e=>K .normal ⟨[(8,.loc 0 0),(11,.loc 1 0)],[[.bool p.2.2.2.1,.nils,.nils],[.bool p.2.2.2.2.2.1,.all 0,.all 1]],⟨[.cells cCongr e.1,.cells cCongr e.2],0⟩,0⟩) e
 pol:=⟨[3,4,8,9,10,11,47],[],[],[]⟩
 pe:=[(.ret,⟨[8],[],[(0,[.any,(.lit cCongr),(.lit cCongr)])],[]⟩),(.normal,⟨[8,11],[],[],[]⟩)]
def f16_c {X:Type} (a:TGraph×TMods×Int×Int) (K:TMods→Option X):Option X:=
 (f16_r1.m (a.2.2,a.1,a.2.1,false)).bind fun e1=>
 cond e1
 (K (false,([],[])))
 ((f46_m (a.1,a.2.1)).bind fun r2=>
 ask (V.inRange a.2.2.1 (List.length a.1.1)) ((f49_m a.2.1).bind fun r3=>
 (f16_r4.m (a.2.2.2,a.1,false,(gx a.1.1 (Int.toNat a.2.2.1) dInstr),a.2.1.1,a.1,a.2.1,r2,a.2.1.2)).bind fun e4=>
 (f16_c5.m (a.2.2.2,e4,a.1,false,(gx a.1.1 (Int.toNat a.2.2.1) dInstr),a.2.1.1,a.1,a.2.1,r2,a.2.1.2)).bind fun e5=>
 Sum.elim (fun e6=>K e6)
 (fun e7=>K (a.2.1.1,e7)) e5))
def f16_m (a:TGraph×TMods×Int×Int):Option (TMods):=f16_c a some
def f16_sp:Spec:=f16_s.sp f16_m
noncomputable def f16_e:Env:=⟨fun k=>[1000005,1000008,1000013,1000017,2000001,2000004].contains k,callsL [(46,f46_sp),(49,f49_sp),(47,f47_sp),(50,f50_sp),(51,f51_sp),(52,f52_sp)],fun X k s K=>if k=2000001 then f16_r1.q X s K else if k=2000004 then f16_r4.q X s K else if k=1000017 then f16_c17.q X s K else if k=1000013 then f16_c13.q X s K else if k=1000008 then f16_c8.q X s K else if k=1000005 then f16_c5.q X s K else none⟩
noncomputable def f16_r1_c:Code:=subAt [1,0,0] (bodyOf Tryz.f16)
theorem f16_r1_ok {C:V.Callee} (hc:SimCall C f16_e.call):LoopSim f16_e.loop (vc par C true [4,5,8,10,11,12,13,1000059,1000069,1000094] 138) f16_r1_c:=
 piece_form glob_ok (env:=f16_e) (env0:=⟨offJ f16_e.join 2000001,f16_e.call,f16_e.loop⟩) hc rfl (lp_of (by kernel_rfl) lp_nil) f16_r1 (by kernel_rfl) (by intros;simp only [f16_r1,PD.m,n1,n2,n3,n4,n5,n6,n7,n8]) (fun _=>by kernel_rfl) (fun _=>rfl) (fun _ _ _ _=>rfl) (fun _ _ _=>by kernel_rfl)
noncomputable def f16_r4_c:Code:=subAt [1,1,1,0,0,0] (bodyOf Tryz.f16)
theorem f16_r4_ok {C:V.Callee} (hc:SimCall C f16_e.call):LoopSim f16_e.loop (vc par C true [4,5,8,10,11,12,13,1000059,1000069,1000094] 138) f16_r4_c:=
 piece_form glob_ok (env:=f16_e) (env0:=⟨offJ f16_e.join 2000004,f16_e.call,f16_e.loop⟩) hc rfl (lp_of (by kernel_rfl) lp_nil) f16_r4 (by kernel_rfl) (by intros;simp only [f16_r4,PD.m,n1,n2,n3,n4,n5,n6,n7,n8]) (fun _=>by kernel_rfl) (fun _=>rfl) (fun _ _ _ _=>rfl) (fun _ _ _=>by kernel_rfl)
noncomputable def f16_c17_c:Code:=subAt [1,1,1,0,0,1,1,1,1,1,0,1,1,0,1] (bodyOf Tryz.f16)
theorem f16_c17_ok {C:V.Callee} (hc:SimCall C f16_e.call):LoopSim f16_e.loop (vc par C true [4,5,8,10,11,12,13,1000059,1000069,1000094] 138) f16_c17_c:=
 piece_form glob_ok (env:=f16_e) (env0:=⟨offJ f16_e.join 1000017,f16_e.call,f16_e.loop⟩) hc rfl (lp_of (by kernel_rfl) lp_nil) f16_c17 (by kernel_rfl) (by intros;simp only [f16_c17,PD.m,n1,n2,n3,n4,n5,n6,n7,n8]) (fun _=>by kernel_rfl) (fun _=>rfl) (fun _ _ _ _=>rfl) (fun _ _ _=>by kernel_rfl)
noncomputable def f16_c13_c:Code:=subAt [1,1,1,0,0,1,1,1,1,1] (bodyOf Tryz.f16)
theorem f16_c13_ok {C:V.Callee} (hc:SimCall C f16_e.call):LoopSim f16_e.loop (vc par C true [4,5,8,10,11,12,13,1000059,1000069,1000094] 138) f16_c13_c:=
 piece_form glob_ok (env:=f16_e) (env0:=⟨offJ f16_e.join 1000013,f16_e.call,f16_e.loop⟩) hc rfl (lp_of (by kernel_rfl) (lp_cons (f16_c17_ok hc) lp_nil)) f16_c13 (by kernel_rfl) (by intros;simp only [f16_c13,PD.m,n1,n2,n3,n4,n5,n6,n7,n8]) (fun _=>by kernel_rfl) (fun _=>rfl) (fun _ _ e _=>by rcases e with e|e<;>rfl) (fun _ _ _=>by kernel_rfl)
noncomputable def f16_c8_c:Code:=subAt [1,1,1,0,0,1,1,1] (bodyOf Tryz.f16)
theorem f16_c8_ok {C:V.Callee} (hc:SimCall C f16_e.call):LoopSim f16_e.loop (vc par C true [4,5,8,10,11,12,13,1000059,1000069,1000094] 138) f16_c8_c:=
 piece_form glob_ok (env:=f16_e) (env0:=⟨offJ f16_e.join 1000008,f16_e.call,f16_e.loop⟩) hc rfl (lp_of (by kernel_rfl) (lp_cons (f16_c13_ok hc) lp_nil)) f16_c8 (by kernel_rfl) (by intros;simp only [f16_c8,PD.m,n1,n2,n3,n4,n5,n6,n7,n8]) (fun _=>by kernel_rfl) (fun _=>rfl) (fun _ _ e _=>by rcases e with e|e<;>rfl) (fun _ _ _=>by kernel_rfl)
noncomputable def f16_c5_c:Code:=subAt [1,1,1,0,0,1] (bodyOf Tryz.f16)
theorem f16_c5_ok {C:V.Callee} (hc:SimCall C f16_e.call):LoopSim f16_e.loop (vc par C true [4,5,8,10,11,12,13,1000059,1000069,1000094] 138) f16_c5_c:=
 piece_form glob_ok (env:=f16_e) (env0:=⟨offJ f16_e.join 1000005,f16_e.call,f16_e.loop⟩) hc rfl (lp_of (by kernel_rfl) (lp_cons (f16_c8_ok hc) lp_nil)) f16_c5 (by kernel_rfl) (by intros;simp only [f16_c5,PD.m,n1,n2,n3,n4,n5,n6,n7,n8]) (fun _=>by kernel_rfl) (fun _=>rfl) (fun _ _ e _=>by rcases e with e|e<;>rfl) (fun _ _ _=>by kernel_rfl)
theorem f16_ok:OK (166020696663385964546) 16 (f16_s.sp f16_m):=
 fnOK (d:=166020696663385964545) (env:=f16_e) (callsL_sim (cc f46_ok (cc f49_ok (cc f47_ok (cc f50_ok (cc f51_ok (cc f52_ok cn))))))) (fn:=Tryz.f16) (locs:=[4,5,8,10,11,12,13,1000059,1000069,1000094]) (sh:=(.agg [.any,(.lit cCongr),(.lit cCongr)])) (fz:=true) (by kernel_rfl) (fun hc=>(lp_of (by kernel_rfl) (lp_cons (f16_r1_ok hc) (lp_cons (f16_r4_ok hc) (lp_cons (f16_c5_ok hc) lp_nil))))) (mc:=fun X a K=>f16_c a K) (fun _ _ _=>by kernel_rfl) (by intros;simp only [f16_m,f16_c,n1,n2,n3,n4,n5,n6,n7,n8]) (fun _=>rfl)
end
end Go.U
end
