/- The functions of the program as Lean functions, and that the evaluator says so. -/
import Derived.Test.YtcbcifeaalkdfaaGreatDoorC4
set_option linter.unusedVariables false
set_option linter.unusedSimpArgs false
set_option linter.unusedSectionVars false
section
set_option maxRecDepth 100000
namespace Go.U
open Go Go.Proofs
noncomputable section
variable {C:V.Callee}
def f158_s:FS (Int) (Int) where
 sk:=⟨(.cons (.int .i64) .nil),[],0⟩
 a:=fun u=>u.1.1
 n:=fun a=>((a,()),())
 o:=fun Z a r K=>K (.int .i64 r) ⟨[],0⟩
def f158_c {X:Type} (a:Int) (K:Int->Option X):Option X:=
 cond (decide ((4611686018427387904:Int)<=a))
 (K 1)
 (cond (decide (a<=(-4611686018427387904:Int)))
 (K (-1))
 (K 0))
def f158_m (a:Int):Option (Int):=f158_c a some
def f158_sp:Spec:=f158_s.sp f158_m
noncomputable def f158_e:Env:=⟨fun k=>[].contains k,callsL [],fun X k s K=>none⟩
theorem f158_ok:OK (1) 158 (f158_s.sp f158_m):=
 fO (d:=0) (env:=f158_e) (callsL_sim cn) (fn:=Tryz.f158) (mc:=@f158_c) (by intros;simp only [f158_m,f158_c,nn])
def f119_s:FS (Int) (ByteArray) where
 sk:=⟨(.cons (.int .i64) .nil),[],0⟩
 a:=fun u=>u.1.1
 n:=fun a=>((a,()),())
 o:=fun Z a r K=>K (.str r) ⟨[],0⟩
def f119_c {X:Type} (a:Int) (K:ByteArray->Option X):Option X:=
 (f158_m a).bind fun r1=>
 cond (decide (r1=(1:Int)))
 (none)
 (cond (decide (r1=(-1:Int)))
 (none)
 ((f120_m (a,10)).bind fun r2=>
 K r2))
def f119_m (a:Int):Option (ByteArray):=f119_c a some
def f119_sp:Spec:=f119_s.sp f119_m
noncomputable def f119_e:Env:=⟨fun k=>[].contains k,callsL [(158,f158_sp),(120,f120_sp)],fun X k s K=>none⟩
theorem f119_ok:OK (2) 119 (f119_s.sp f119_m):=
 fO (d:=1) (env:=f119_e) (callsL_sim (cc f158_ok (cc f120_ok cn))) (fn:=Tryz.f119) (mc:=@f119_c) (by intros;simp only [f119_m,f119_c,nn])
def f67_s:FS (TCongr) (ByteArray) where
 sk:=⟨(.cons (.agg kC) .nil),[],0⟩
 a:=fun u=>(q3 u.1.1)
 n:=fun a=>(((w3 a),()),())
 o:=fun Z a r K=>K (.str r) ⟨[],0⟩
def f67_c {X:Type} (a:TCongr) (K:ByteArray->Option X):Option X:=
 cond a.1
 (K (str [110,111,110,101]))
 (cond (decide (a.2.1=(0:Int)))
 ((f119_m a.2.2).bind fun r1=>
 K r1)
 (cond (decide (a.2.1=(1:Int)))
 (K (str [97,108,108]))
 ((f120_m (a.2.2,10)).bind fun r2=>
 ask (decide (ByteArray.size r2+ByteArray.size (str [32,109,111,100,32])<=9223372036854775807)) ((f120_m (a.2.1,10)).bind fun r3=>
 ask (decide (ByteArray.size (r2++(str [32,109,111,100,32]))+ByteArray.size r3<=9223372036854775807)) (K ((r2++(str [32,109,111,100,32]))++r3))))))
def f67_m (a:TCongr):Option (ByteArray):=f67_c a some
def f67_sp:Spec:=f67_s.sp f67_m
noncomputable def f67_e:Env:=⟨fun k=>[].contains k,callsL [(119,f119_sp),(120,f120_sp)],fun X k s K=>none⟩
theorem f67_ok:OK (3) 67 (f67_s.sp f67_m):=
 fO (d:=2) (env:=f67_e) (callsL_sim (cc f119_ok (cc f120_ok cn))) (fn:=Tryz.f67) (mc:=@f67_c) (by intros;simp only [f67_m,f67_c,nn]) (locs:=[1])
def f30_s:FS (TGraph×TMods) (ByteArray) where
 sk:=⟨(.cons (.agg kG) (.cons (.agg kM) .nil)),[],0⟩
 a:=fun u=>((q8 u.1.1),(q3 u.1.2.1))
 n:=fun a=>(((w8 a.1),((w3 a.2),())),())
 o:=fun Z a r K=>K (.str r) ⟨[],0⟩
def f30_l5:LD ((List TCongr)×Int×(TGraph×TMods)) (Int×ByteArray) (ByteArray) where
 sk:=⟨[(2,.loc 0 0),(3,.loc 1 0),(5,.v (.ptr 0 0)),(14,.v (.lit cCongr)),(15,.v (.int .i64)),(16,.v (.int .i64))],[kG,kM],[.bld (.all 1),.byt],0,0⟩
 p:=fun u=>(u.1.2.1,u.1.2.2.1,((q8 u.2.1.1),(q3 u.2.1.2.1)))
 t:=fun u=>(u.1.2.2.2.1,u.2.2.2.1)
 n:=fun p t=>(((),(p.1,(p.2.1,(t.1,())))),(((w8 p.2.2.1),((w3 p.2.2.2),())),((),(t.2,()))))
 st:=fun Y p t ki ke=>cond (decide (t.1<p.2.1))
  (ask (V.inRange t.1 (List.length p.1)) (ask (V.inRange t.1 (List.length p.2.2.1.2.2.2.2.2.1)) (ask (decide (ByteArray.size (gx p.2.2.1.2.2.2.2.2.1 (Int.toNat t.1) dScalar).1+ByteArray.size (str [32,105,115,32])<=9223372036854775807)) ((f67_m (gx p.1 (Int.toNat t.1) dCongr)).bind fun r1=>
  ask (decide (ByteArray.size ((gx p.2.2.1.2.2.2.2.2.1 (Int.toNat t.1) dScalar).1++(str [32,105,115,32]))+ByteArray.size r1<=9223372036854775807)) (ask (decide (ByteArray.size (((gx p.2.2.1.2.2.2.2.2.1 (Int.toNat t.1) dScalar).1++(str [32,105,115,32]))++r1)+ByteArray.size (str [10])<=9223372036854775807)) ((f66_m (((((gx p.2.2.1.2.2.2.2.2.1 (Int.toNat t.1) dScalar).1++(str [32,105,115,32]))++r1)++(str [10])),t.2)).bind fun r2=>
  ki ((wi64 (t.1+(1:Int))),r2.2)))))))
  (ke (t.2))
 o:=fun Z p e K=>K (.exit 0) ⟨[(2,.loc 0 0),(3,.loc 1 0),(5,.v (.ptr 0 0))],[[.lit cInstr p.2.2.1.1,.int .i64 p.2.2.1.2.1,.int .i64 p.2.2.1.2.2.1,.int .i64 p.2.2.1.2.2.2.1,.lit cArray p.2.2.1.2.2.2.2.1,.lit cScalar p.2.2.1.2.2.2.2.2.1,.lit cArray p.2.2.1.2.2.2.2.2.2.1,.lit cItv p.2.2.1.2.2.2.2.2.2.2],[.bool p.2.2.2.1,.lit cCongr p.2.2.2.2.1,.lit cCongr p.2.2.2.2.2]],⟨[.bld (.all 1),.byt e],0⟩,0⟩
 pol:=⟨[2,3,5,14,15,16],[],[],[]⟩
 pe:=[(.exit 0,⟨[2,3,5],[],[],[]⟩)]
def f30_l10:LD ((List TCongr)×Int×TGraph) (Int×ByteArray) (ByteArray) where
 sk:=⟨[(2,.loc 0 0),(5,.v (.ptr 0 0)),(35,.v (.lit cCongr)),(36,.v (.int .i64)),(37,.v (.int .i64))],[kG],[.bld (.all 1),.byt],0,0⟩
 p:=fun u=>(u.1.2.1,u.1.2.2.1,(q8 u.2.1.1))
 t:=fun u=>(u.1.2.2.2.1,u.2.2.2.1)
 n:=fun p t=>(((),(p.1,(p.2.1,(t.1,())))),(((w8 p.2.2),()),((),(t.2,()))))
 st:=fun Y p t ki ke=>cond (decide (t.1<p.2.1))
  (ask (V.inRange t.1 (List.length p.1)) (ask (V.inRange t.1 (List.length p.2.2.2.2.2.2.2.2.1)) (ask (decide (ByteArray.size (gx p.2.2.2.2.2.2.2.2.1 (Int.toNat t.1) dArray).1+ByteArray.size (str [91,93,32,105,115,32])<=9223372036854775807)) ((f67_m (gx p.1 (Int.toNat t.1) dCongr)).bind fun r1=>
  ask (decide (ByteArray.size ((gx p.2.2.2.2.2.2.2.2.1 (Int.toNat t.1) dArray).1++(str [91,93,32,105,115,32]))+ByteArray.size r1<=9223372036854775807)) (ask (decide (ByteArray.size (((gx p.2.2.2.2.2.2.2.2.1 (Int.toNat t.1) dArray).1++(str [91,93,32,105,115,32]))++r1)+ByteArray.size (str [10])<=9223372036854775807)) ((f66_m (((((gx p.2.2.2.2.2.2.2.2.1 (Int.toNat t.1) dArray).1++(str [91,93,32,105,115,32]))++r1)++(str [10])),t.2)).bind fun r2=>
  ki ((wi64 (t.1+(1:Int))),r2.2)))))))
  (ke (t.2))
 o:=fun Z p e K=>K (.exit 2) ⟨[(5,.v (.ptr 0 0))],[],⟨[.bld (.all 1),.byt e],0⟩,0⟩
 pol:=⟨[2,5,35,36,37],[],[],[]⟩
 pe:=[(.exit 2,⟨[5],[],[],[]⟩)]
def f30_c {X:Type} (a:TGraph×TMods) (K:ByteArray->Option X):Option X:=
 cond (!a.2.1)
 (K (str [98,111,116,116,111,109,10]))
 ((loopAll (f30_l5.m (a.2.2.1,(nt (List.length a.2.2.1)),a)) (0,ByteArray.empty)).bind fun e1=>
 (loopAll (f30_l10.m (a.2.2.2,(nt (List.length a.2.2.2)),a.1)) (0,e1)).bind fun e2=>
 (f68_m e2).bind fun r3=>
 K r3)
def f30_m (a:TGraph×TMods):Option (ByteArray):=f30_c a some
def f30_sp:Spec:=f30_s.sp f30_m
noncomputable def f30_e:Env:=⟨fun k=>[].contains k,callsL [(67,f67_sp),(66,f66_sp),(68,f68_sp)],fun X k s K=>if k=5 then f30_l5.q X s K else if k=10 then f30_l10.q X s K else none⟩
noncomputable def f30_l5_c:Code:=subAt [1,1,1,0,1,0,0] (bodyOf Tryz.f30)
theorem f30_l5_ok (hc:SimCall C f30_e.call):LoopSim f30_e.loop (vc par C true [2,3,7,9] 56) (.loop f30_l5_c):=
 lO hc f30_l5 (by intros;simp only [f30_l5,LD.m,nn])
noncomputable def f30_l10_c:Code:=subAt [1,1,1,1,0,1,0,0] (bodyOf Tryz.f30)
theorem f30_l10_ok (hc:SimCall C f30_e.call):LoopSim f30_e.loop (vc par C true [2,3,7,9] 56) (.loop f30_l10_c):=
 lO hc f30_l10 (by intros;simp only [f30_l10,LD.m,nn])
theorem f30_ok:OK (4) 30 (f30_s.sp f30_m):=
 fO (d:=3) (env:=f30_e) (callsL_sim (cc f67_ok (cc f66_ok (cc f68_ok cn)))) (fn:=Tryz.f30) (mc:=@f30_c) (by intros;simp only [f30_m,f30_c,nn]) (locs:=[2,3,7,9]) (hl:=fun hc=>(lp_of (by kernel_rfl) (lp_cons (f30_l5_ok hc) (lp_cons (f30_l10_ok hc) lp_nil))))
def f13_s:FS (TGraph×TMods×Int) (TCongr) where
 sk:=⟨(.cons (.agg kG) (.cons (.agg kM) (.cons (.int .i64) .nil))),[],0⟩
 a:=fun u=>((q8 u.1.1),(q3 u.1.2.1),u.1.2.2.1)
 n:=fun a=>(((w8 a.1),((w3 a.2.1),(a.2.2,()))),())
 o:=fun Z a r K=>K (.agg [.bool r.1,.int .i64 r.2.1,.int .i64 r.2.2]) ⟨[],0⟩
def f13_c {X:Type} (a:TGraph×TMods×Int) (K:TCongr->Option X):Option X:=
 (f46_m (a.1,a.2.1)).bind fun r1=>
 (Rec47.m (a.2.2,a.1,a.2.1,r1.1,r1.2)).bind fun r2=>
 K r2.1
def f13_m (a:TGraph×TMods×Int):Option (TCongr):=f13_c a some
def f13_sp:Spec:=f13_s.sp f13_m
noncomputable def f13_e:Env:=⟨fun k=>[].contains k,callsL [(46,f46_sp),(47,f47_sp)],fun X k s K=>none⟩
theorem f13_ok:OK (166020696663385964545) 13 (f13_s.sp f13_m):=
 fO (d:=166020696663385964544) (env:=f13_e) (callsL_sim (cc f46_ok (cc f47_ok cn))) (fn:=Tryz.f13) (mc:=@f13_c) (by intros;simp only [f13_m,f13_c,nn]) (locs:=[3,4,6,1000011])
def f23_s:FS (TGraph×(List TMods)) (Bool) where
 sk:=⟨(.cons (.agg kG) (.cons (.lit cMods) .nil)),[],0⟩
 a:=fun u=>((q8 u.1.1),u.1.2.1)
 n:=fun a=>(((w8 a.1),(a.2,())),())
 o:=fun Z a r K=>K (.bool r) ⟨[],0⟩
def f23_l7:LD ((List TMods)×Int×(List Int)×Int×Int×TItv×TGraph) (Int) ((Unit) ⊕ (Unit)) where
 sk:=⟨[(1,.v (.lit cMods)),(2,.loc 0 0),(6,.v (.int .i64)),(25,.v (.lit (.int .i64))),(26,.v (.int .i64)),(27,.v (.int .i64)),(36,.v (.agg kI)),(37,.v (.int .i64))],[kG],[],0,0⟩
 p:=fun u=>(u.1.1,u.1.2.1,u.1.2.2.1,u.1.2.2.2.1,u.1.2.2.2.2.1,(u.1.2.2.2.2.2.1.1,u.1.2.2.2.2.2.1.2.1),(q8 u.2.1.1))
 t:=fun u=>u.1.2.2.2.2.2.2.1
 n:=fun p t=>((p.1,(p.2.1,(p.2.2.1,(p.2.2.2.1,(p.2.2.2.2.1,((p.2.2.2.2.2.1.1,(p.2.2.2.2.2.1.2,())),(t,()))))))),(((w8 p.2.2.2.2.2.2),()),()))
 st:=fun Y p t ki ke=>cond (decide (t<(2:Int)))
  (cond (decide (t=(0:Int)))
  (cond (decide ((0:Int)<=p.2.2.2.2.2.1.1))
  (ask (V.inRange p.2.1 (List.length p.1)) ((f16_m (p.2.2.2.2.2.2,(gx p.1 (Int.toNat p.2.1) dMods),p.2.1,t)).bind fun r1=>
  ask (V.inRange p.2.2.2.2.2.1.1 (List.length p.1)) ((f25_m (r1,(gx p.1 (Int.toNat p.2.2.2.2.2.1.1) dMods))).bind fun r2=>
  cond (!r2)
  (ke (.inl ()))
  (ki ((wi64 (t+(1:Int))))))))
  (ki ((wi64 (t+(1:Int))))))
  (cond (decide (t=(1:Int)))
  (cond (decide ((0:Int)<=p.2.2.2.2.2.1.2))
  (ask (V.inRange p.2.1 (List.length p.1)) ((f16_m (p.2.2.2.2.2.2,(gx p.1 (Int.toNat p.2.1) dMods),p.2.1,t)).bind fun r3=>
  ask (V.inRange p.2.2.2.2.2.1.2 (List.length p.1)) ((f25_m (r3,(gx p.1 (Int.toNat p.2.2.2.2.2.1.2) dMods))).bind fun r4=>
  cond (!r4)
  (ke (.inl ()))
  (ki ((wi64 (t+(1:Int))))))))
  (ki ((wi64 (t+(1:Int))))))
  (none)))
  (ke (.inr (())))
 o:=fun Z p e K=>Sum.elim (fun e=>K .ret ⟨[(4,.v (.bool false))],[],⟨[],0⟩,0⟩) (fun e=>K (.exit 2) ⟨[(1,.v (.lit cMods p.1)),(2,.loc 0 0),(25,.v (.lit (.int .i64) p.2.2.1)),(26,.v (.int .i64 p.2.2.2.1)),(27,.v (.int .i64 p.2.2.2.2.1))],[[.lit cInstr p.2.2.2.2.2.2.1,.int .i64 p.2.2.2.2.2.2.2.1,.int .i64 p.2.2.2.2.2.2.2.2.1,.int .i64 p.2.2.2.2.2.2.2.2.2.1,.lit cArray p.2.2.2.2.2.2.2.2.2.2.1,.lit cScalar p.2.2.2.2.2.2.2.2.2.2.2.1,.lit cArray p.2.2.2.2.2.2.2.2.2.2.2.2.1,.lit cItv p.2.2.2.2.2.2.2.2.2.2.2.2.2]],⟨[],0⟩,0⟩) e
 pol:=⟨[1,2,6,25,26,27,36,37],[],[],[]⟩
 pe:=[(.ret,⟨[4],[],[],[]⟩),(.exit 2,⟨[1,2,25,26,27],[],[],[]⟩)]
def f23_l4:LD ((List TMods)×(List Int)×Int×TGraph) (Int) ((Unit) ⊕ (Unit)) where
 sk:=⟨[(1,.v (.lit cMods)),(2,.loc 0 0),(25,.v (.lit (.int .i64))),(26,.v (.int .i64)),(27,.v (.int .i64))],[kG],[],0,0⟩
 p:=fun u=>(u.1.1,u.1.2.1,u.1.2.2.1,(q8 u.2.1.1))
 t:=fun u=>u.1.2.2.2.1
 n:=fun p t=>((p.1,(p.2.1,(p.2.2.1,(t,())))),(((w8 p.2.2.2),()),()))
 st:=fun Y p t ki ke=>cond (decide (t<p.2.2.1))
  (ask (V.inRange t (List.length p.2.1)) (ask (V.inRange (gx p.2.1 (Int.toNat t) (0:Int)) (List.length p.2.2.2.1)) ((loopAll (f23_l7.m (p.1,(gx p.2.1 (Int.toNat t) (0:Int)),p.2.1,p.2.2.1,t,(gx p.2.2.2.1 (Int.toNat (gx p.2.1 (Int.toNat t) (0:Int))) dInstr).2.2.2.2.2.2,p.2.2.2)) 0).bind fun e1=>
  Sum.elim (fun e2=>ke (.inl ()))
  (fun e3=>ki ((wi64 (t+(1:Int))))) e1)))
  (ke (.inr (())))
 o:=fun Z p e K=>Sum.elim (fun e=>K .ret ⟨[(4,.v (.bool false))],[],⟨[],0⟩,0⟩) (fun e=>K (.exit 0) ⟨[],[],⟨[],0⟩,0⟩) e
 pol:=⟨[1,2,25,26,27],[],[],[]⟩
 pe:=[(.ret,⟨[4],[],[],[]⟩),(.exit 0,⟨[],[],[],[]⟩)]
def f23_c {X:Type} (a:TGraph×(List TMods)) (K:Bool->Option X):Option X:=
 cond (!(decide ((nt (List.length a.2))=(nt (List.length a.1.1)))))
 (K false)
 ((f32_m a.1).bind fun r1=>
 ask (V.inRange 0 (List.length a.2)) ((f25_m ((true,r1),(gx a.2 0 dMods))).bind fun r2=>
 cond (!r2)
 (K false)
 ((f58_m a.1).bind fun r3=>
 (loopAll (f23_l4.m (a.2,r3,(nt (List.length r3)),a.1)) 0).bind fun e4=>
 Sum.elim (fun e5=>K false)
 (fun e6=>K true) e4)))
def f23_m (a:TGraph×(List TMods)):Option (Bool):=f23_c a some
def f23_sp:Spec:=f23_s.sp f23_m
noncomputable def f23_e:Env:=⟨fun k=>[].contains k,callsL [(32,f32_sp),(25,f25_sp),(58,f58_sp),(16,f16_sp)],fun X k s K=>if k=7 then f23_l7.q X s K else if k=4 then f23_l4.q X s K else none⟩
noncomputable def f23_l7_c:Code:=subAt [1,1,0,1,0,0,1,1,0,0,1,1,0,0] (bodyOf Tryz.f23)
theorem f23_l7_ok (hc:SimCall C f23_e.call):LoopSim f23_e.loop (vc par C true [2] 61) (.loop f23_l7_c):=
 lO hc f23_l7 (by intros;simp only [f23_l7,LD.m,nn])
noncomputable def f23_l4_c:Code:=subAt [1,1,0,1,0,0] (bodyOf Tryz.f23)
theorem f23_l4_ok (hc:SimCall C f23_e.call):LoopSim f23_e.loop (vc par C true [2] 61) (.loop f23_l4_c):=
 lO hc f23_l4 (by intros;simp only [f23_l4,LD.m,nn]) (hl:=(lp_of (by kernel_rfl) (lp_cons (f23_l7_ok hc) lp_nil)))
theorem f23_ok:OK (166020696663385964547) 23 (f23_s.sp f23_m):=
 fO (d:=166020696663385964546) (env:=f23_e) (callsL_sim (cc f32_ok (cc f25_ok (cc f58_ok (cc f16_ok cn))))) (fn:=Tryz.f23) (mc:=@f23_c) (by intros;simp only [f23_m,f23_c,nn]) (locs:=[2]) (hl:=fun hc=>(lp_of (by kernel_rfl) (lp_cons (f23_l4_ok hc) lp_nil)))
def f12_s:FS (Unit) (Bool) where
 sk:=⟨.nil,[],0⟩
 a:=fun u=>()
 n:=fun a=>((),())
 o:=fun Z a r K=>K (.bool r) ⟨[],0⟩
def f12_c {X:Type} (a:Unit) (K:Bool->Option X):Option X:=
 (f21_m (([(17,(0,(0,(0,(0,(0,(1,(-1)))))))),(1,(1,(0,(0,(2,(0,(2,(-1)))))))),(4,(2,(0,(1,(0,(1,(3,(-1)))))))),(13,(0,(2,(0,(0,(0,(4,(-1)))))))),(18,(0,(0,(0,(0,(0,(0,(-1))))))))]:List TInstr),(0,(3,(0,([],(([((str [120]),(3,0))]:List TScalar),([],([(0,0),(0,2)]:List TItv))))))))).bind fun r1=>
 cond (decide ((nt (List.length r1))=(5:Int)))
 (ask (V.inRange 0 (List.length r1)) (cond (gx r1 0 dMods).1
 (ask (V.inRange 0 (List.length r1)) (cond (decide ((nt (List.length (gx r1 0 dMods).2.1))=(1:Int)))
 (ask (V.inRange 0 (List.length r1)) (ask (V.inRange 0 (List.length (gx r1 0 dMods).2.1)) (cond (((gx (gx r1 0 dMods).2.1 0 dCongr).1==false)&&((decide ((gx (gx r1 0 dMods).2.1 0 dCongr).2.1=(2:Int)))&&((decide ((gx (gx r1 0 dMods).2.1 0 dCongr).2.2=(0:Int)))&&true)))
 (ask (V.inRange 0 (List.length r1)) ((f30_m ((([(17,(0,(0,(0,(0,(0,(1,(-1)))))))),(1,(1,(0,(0,(2,(0,(2,(-1)))))))),(4,(2,(0,(1,(0,(1,(3,(-1)))))))),(13,(0,(2,(0,(0,(0,(4,(-1)))))))),(18,(0,(0,(0,(0,(0,(0,(-1))))))))]:List TInstr),(0,(3,(0,([],(([((str [120]),(3,0))]:List TScalar),([],([(0,0),(0,2)]:List TItv)))))))),(gx r1 0 dMods))).bind fun r2=>
 cond (r2.toList==(str [120,32,105,115,32,48,32,109,111,100,32,50,10]).toList)
 (ask (V.inRange 0 (List.length r1)) ((f13_m ((([(17,(0,(0,(0,(0,(0,(1,(-1)))))))),(1,(1,(0,(0,(2,(0,(2,(-1)))))))),(4,(2,(0,(1,(0,(1,(3,(-1)))))))),(13,(0,(2,(0,(0,(0,(4,(-1)))))))),(18,(0,(0,(0,(0,(0,(0,(-1))))))))]:List TInstr),(0,(3,(0,([],(([((str [120]),(3,0))]:List TScalar),([],([(0,0),(0,2)]:List TItv)))))))),(gx r1 0 dMods),2)).bind fun r3=>
 cond ((r3.1==false)&&((decide (r3.2.1=(2:Int)))&&((decide (r3.2.2=(0:Int)))&&true)))
 ((f23_m ((([(17,(0,(0,(0,(0,(0,(1,(-1)))))))),(1,(1,(0,(0,(2,(0,(2,(-1)))))))),(4,(2,(0,(1,(0,(1,(3,(-1)))))))),(13,(0,(2,(0,(0,(0,(4,(-1)))))))),(18,(0,(0,(0,(0,(0,(0,(-1))))))))]:List TInstr),(0,(3,(0,([],(([((str [120]),(3,0))]:List TScalar),([],([(0,0),(0,2)]:List TItv)))))))),r1)).bind fun r4=>
 K r4)
 (K false)))
 (K false)))
 (K false))))
 (K false)))
 (K false)))
 (K false)
def f12_m (a:Unit):Option (Bool):=f12_c a some
def f12_sp:Spec:=f12_s.sp f12_m
noncomputable def f12_e:Env:=⟨fun k=>[].contains k,callsL [(45,f45_sp),(21,f21_sp),(30,f30_sp),(13,f13_sp),(23,f23_sp)],fun X k s K=>none⟩
theorem f12_ok:OK (166020696663385964548) 12 (f12_s.sp f12_m):=
 fO (d:=166020696663385964547) (env:=f12_e) (callsL_sim (cc f45_ok (cc f21_ok (cc f30_ok (cc f13_ok (cc f23_ok cn)))))) (fn:=Tryz.f12) (mc:=@f12_c) (by intros;simp only [f12_m,f12_c,nn])
def f111_s:FS (Int) (Int) where
 sk:=⟨(.cons (.int .i64) .nil),[],0⟩
 a:=fun u=>u.1.1
 n:=fun a=>((a,()),())
 o:=fun Z a r K=>K (.int .u64 r) ⟨[],0⟩
def f111_c {X:Type} (a:Int) (K:Int->Option X):Option X:=
 cond (decide (a<(0:Int)))
 (K (wu64 ((wu64 (wi64 ((0:Int)-(wi64 (a+(1:Int))))))+(1:Int))))
 (K (wu64 a))
def f111_m (a:Int):Option (Int):=f111_c a some
def f111_sp:Spec:=f111_s.sp f111_m
noncomputable def f111_e:Env:=⟨fun k=>[].contains k,callsL [],fun X k s K=>none⟩
theorem f111_ok:OK (1) 111 (f111_s.sp f111_m):=
 fO (d:=0) (env:=f111_e) (callsL_sim cn) (fn:=Tryz.f111) (mc:=@f111_c) (by intros;simp only [f111_m,f111_c,nn])
def f105_s:FS (Unit) (Unit) where
 sk:=⟨.nil,[],0⟩
 a:=fun u=>()
 n:=fun a=>((),())
 o:=fun Z a r K=>K (.agg [.bool true,.int .i64 0,.int .i64 0]) ⟨[],0⟩
def f105_c {X:Type} (a:Unit) (K:Unit->Option X):Option X:=
 K ()
def f105_m (a:Unit):Option (Unit):=f105_c a some
def f105_sp:Spec:=f105_s.sp f105_m
noncomputable def f105_e:Env:=⟨fun k=>[].contains k,callsL [],fun X k s K=>none⟩
theorem f105_ok:OK (1) 105 (f105_s.sp f105_m):=
 fO (d:=0) (env:=f105_e) (callsL_sim cn) (fn:=Tryz.f105) (mc:=@f105_c) (by intros;simp only [f105_m,f105_c,nn]) (locs:=[0])
def f123_s:FS (Int×Int×Bool) (TCongr) where
 sk:=⟨(.cons (.int .u64) (.cons (.int .u64) (.cons .bool .nil))),[],0⟩
 a:=fun u=>(u.1.1,u.1.2.1,u.1.2.2.1)
 n:=fun a=>((w3 a),())
 o:=fun Z a r K=>K (.agg [.bool r.1,.int .i64 r.2.1,.int .i64 r.2.2]) ⟨[],0⟩
def f123_r2:PD ((Int×Bool)×Bool×Int×Int) (Bool) where
 sk:=⟨[(1,.v (.int .u64)),(2,.v .bool),(6,.loc 0 0)],[kC],[],0,0⟩
 p:=fun u=>((u.1.1,u.1.2.1),u.2.1.1.1,u.2.1.1.2.1,u.2.1.1.2.2.1)
 n:=fun p=>((p.1.1,(p.1.2,())),(((w3 p.2),()),()))
 st:=fun Y p ke=>cond p.1.2
  (ke ((decide (p.1.1<=(2147483648:Int)))))
  (ke (false))
 o:=fun Z p e K=>K .normal ⟨[(1,.v (.int .u64 p.1.1)),(2,.v (.bool p.1.2)),(6,.loc 0 0),(14,.v (.bool e))],[[.bool p.2.1,.int .i64 p.2.2.1,.int .i64 p.2.2.2]],⟨[],0⟩,0⟩
 pol:=⟨[1,2,6],[],[],[]⟩
 pe:=[(.normal,⟨[1,2,6,14],[],[],[]⟩)]
def f123_r4:PD ((Int×Bool)×Bool×Int×Int) (Bool) where
 sk:=⟨[(1,.v (.int .u64)),(2,.v .bool),(6,.loc 0 0)],[kC],[],0,0⟩
 p:=fun u=>((u.1.1,u.1.2.1),u.2.1.1.1,u.2.1.1.2.1,u.2.1.1.2.2.1)
 n:=fun p=>((p.1.1,(p.1.2,())),(((w3 p.2),()),()))
 st:=fun Y p ke=>cond (!p.1.2)
  (ke ((decide (p.1.1<=(2147483647:Int)))))
  (ke (false))
 o:=fun Z p e K=>K .normal ⟨[(1,.v (.int .u64 p.1.1)),(6,.loc 0 0),(24,.v (.bool e))],[[.bool p.2.1,.int .i64 p.2.2.1,.int .i64 p.2.2.2]],⟨[],0⟩,0⟩
 pol:=⟨[1,2,6],[],[],[]⟩
 pe:=[(.normal,⟨[1,6,24],[],[],[]⟩)]
def f123_r8:PD (Int×Int×Bool×Bool×Int×Int) (Bool) where
 sk:=⟨[(0,.v (.int .u64)),(1,.v (.int .u64)),(2,.v .bool),(6,.loc 0 0)],[kC],[],0,0⟩
 p:=fun u=>(u.1.1,u.1.2.1,u.1.2.2.1,u.2.1.1.1,u.2.1.1.2.1,u.2.1.1.2.2.1)
 n:=fun p=>((p.1,(p.2.1,(p.2.2.1,()))),(((w3 p.2.2.2),()),()))
 st:=fun Y p ke=>cond p.2.2.1
  (ke ((!(decide (p.2.1=(0:Int))))))
  (ke (false))
 o:=fun Z p e K=>K .normal ⟨[(0,.v (.int .u64 p.1)),(1,.v (.int .u64 p.2.1)),(6,.loc 0 0),(36,.v (.bool e))],[[.bool p.2.2.2.1,.int .i64 p.2.2.2.2.1,.int .i64 p.2.2.2.2.2]],⟨[],0⟩,0⟩
 pol:=⟨[0,1,2,6],[],[],[]⟩
 pe:=[(.normal,⟨[0,1,6,36],[],[],[]⟩)]
def f123_c9:PD (Int×Int×Bool×Bool×Int×Int) (Int) where
 sk:=⟨[(0,.v (.int .u64)),(1,.v (.int .u64)),(6,.loc 0 0),(36,.v .bool)],[kC],[],0,0⟩
 p:=fun u=>(u.1.1,u.1.2.1,u.1.2.2.1,u.2.1.1.1,u.2.1.1.2.1,u.2.1.1.2.2.1)
 n:=fun p=>((p.1,(p.2.1,(p.2.2.1,()))),(((w3 p.2.2.2),()),()))
 st:=fun Y p ke=>cond p.2.2.1
  (ke ((wu64 (p.1-p.2.1))))
  (ke (p.2.1))
 o:=fun Z p e K=>K .normal ⟨[(0,.v (.int .u64 p.1)),(1,.v (.int .u64 e)),(6,.loc 0 0)],[[.bool p.2.2.2.1,.int .i64 p.2.2.2.2.1,.int .i64 p.2.2.2.2.2]],⟨[],0⟩,0⟩
 pol:=⟨[0,1,6,36],[],[],[]⟩
 pe:=[(.normal,⟨[0,1,6],[],[],[]⟩)]
def f123_c12:PD (Int×Int×Bool×Bool×Int×Int) ((List Int)) where
 sk:=⟨[(0,.v (.int .u64)),(1,.v (.int .u64)),(6,.loc 0 0),(7,.v .nils),(41,.v .bool)],[kC],[],0,0⟩
 p:=fun u=>(u.1.1,u.1.2.1,u.1.2.2.2.1,u.2.1.1.1,u.2.1.1.2.1,u.2.1.1.2.2.1)
 n:=fun p=>((p.1,(p.2.1,((),(p.2.2.1,())))),(((w3 p.2.2.2),()),()))
 st:=fun Y p ke=>cond p.2.2.1
  (ask (decide ((List.length ([(wi64 p.2.1)]:List Int)) * 8<=70368744177664)&&decide ((List.length ([(wi64 p.2.1)]:List Int))<9223372036854775808)) (ke (([(wi64 p.2.1)]:List Int))))
  (ke ([]))
 o:=fun Z p e K=>K .normal ⟨[(0,.v (.int .u64 p.1)),(1,.v (.int .u64 p.2.1)),(6,.loc 0 0),(7,.v (.all 0))],[[.bool p.2.2.2.1,.int .i64 p.2.2.2.2.1,.int .i64 p.2.2.2.2.2]],⟨[.cells (.int .i64) e],0⟩,0⟩
 pol:=⟨[0,1,6,7,41],[],[],[]⟩
 pe:=[(.normal,⟨[0,1,6,7],[(7,(.own (.int .i64)))],[],[]⟩)]
def f123_c14:PD (Int×Int×Bool×Bool×Int×Int×(List Int)) ((List Int)) where
 sk:=⟨[(0,.v (.int .u64)),(1,.v (.int .u64)),(6,.loc 0 0),(7,.v (.all 0)),(50,.v .bool)],[kC],[.cells (.int .i64)],0,0⟩
 p:=fun u=>(u.1.1,u.1.2.1,u.1.2.2.2.1,u.2.1.1.1,u.2.1.1.2.1,u.2.1.1.2.2.1,u.2.2.1)
 n:=fun p=>((p.1,(p.2.1,((),(p.2.2.1,())))),(((p.2.2.2.1,(p.2.2.2.2.1,(p.2.2.2.2.2.1,()))),()),(p.2.2.2.2.2.2,())))
 st:=fun Y p ke=>cond p.2.2.1
  (ask (decide (((List.length p.2.2.2.2.2.2)+(List.length ([(wi64 ((0:Int)-(wi64 (wu64 (p.1-p.2.1)))))]:List Int))) * 8<=70368744177664)&&decide (((List.length p.2.2.2.2.2.2)+(List.length ([(wi64 ((0:Int)-(wi64 (wu64 (p.1-p.2.1)))))]:List Int)))<9223372036854775808)) (ke ((p.2.2.2.2.2.2++([(wi64 ((0:Int)-(wi64 (wu64 (p.1-p.2.1)))))]:List Int)))))
  (ke (p.2.2.2.2.2.2))
 o:=fun Z p e K=>K .normal ⟨[(0,.v (.int .u64 p.1)),(1,.v (.int .u64 p.2.1)),(6,.loc 0 0),(7,.v (.all 0))],[[.bool p.2.2.2.1,.int .i64 p.2.2.2.2.1,.int .i64 p.2.2.2.2.2.1]],⟨[.cells (.int .i64) e],0⟩,0⟩
 pol:=⟨[0,1,6,7,50],[],[],[]⟩
 pe:=[(.normal,⟨[0,1,6,7],[],[],[]⟩)]
def f123_r15:PD (Int×Int×Bool×Int×Int×(List Int)) (Bool) where
 sk:=⟨[(0,.v (.int .u64)),(1,.v (.int .u64)),(6,.loc 0 0),(7,.v (.all 0))],[kC],[.cells (.int .i64)],0,0⟩
 p:=fun u=>(u.1.1,u.1.2.1,u.2.1.1.1,u.2.1.1.2.1,u.2.1.1.2.2.1,u.2.2.1)
 n:=fun p=>((p.1,(p.2.1,((),()))),(((p.2.2.1,(p.2.2.2.1,(p.2.2.2.2.1,()))),()),(p.2.2.2.2.2,())))
 st:=fun Y p ke=>cond (decide ((nt (List.length p.2.2.2.2.2))=(1:Int)))
  (ask (V.inRange 0 (List.length p.2.2.2.2.2)) (cond (decide ((0:Int)<=(gx p.2.2.2.2.2 0 (0:Int))))
  (ask (V.inRange 0 (List.length p.2.2.2.2.2)) (ke ((decide (p.1<=(wu64 ((2147483647:Int)-(wu64 (gx p.2.2.2.2.2 0 (0:Int))))))))))
  (ke (false))))
  (ke (false))
 o:=fun Z p e K=>K .normal ⟨[(0,.v (.int .u64 p.1)),(1,.v (.int .u64 p.2.1)),(6,.loc 0 0),(7,.v (.all 0)),(76,.v (.bool e))],[[.bool p.2.2.1,.int .i64 p.2.2.2.1,.int .i64 p.2.2.2.2.1]],⟨[.cells (.int .i64) p.2.2.2.2.2],0⟩,0⟩
 pol:=⟨[0,1,6,7],[],[],[]⟩
 pe:=[(.normal,⟨[0,1,6,7,76],[],[],[]⟩)]
def f123_c16:PD (Int×Int×Bool×Bool×Int×Int×(List Int)) ((List Int)) where
 sk:=⟨[(0,.v (.int .u64)),(1,.v (.int .u64)),(6,.loc 0 0),(7,.v (.all 0)),(76,.v .bool)],[kC],[.cells (.int .i64)],0,0⟩
 p:=fun u=>(u.1.1,u.1.2.1,u.1.2.2.2.1,u.2.1.1.1,u.2.1.1.2.1,u.2.1.1.2.2.1,u.2.2.1)
 n:=fun p=>((p.1,(p.2.1,((),(p.2.2.1,())))),(((p.2.2.2.1,(p.2.2.2.2.1,(p.2.2.2.2.2.1,()))),()),(p.2.2.2.2.2.2,())))
 st:=fun Y p ke=>cond p.2.2.1
  (ask (decide (((List.length p.2.2.2.2.2.2)+(List.length ([0]:List Int))) * 8<=70368744177664)&&decide (((List.length p.2.2.2.2.2.2)+(List.length ([0]:List Int)))<9223372036854775808)) (ke ((p.2.2.2.2.2.2++([0]:List Int)))))
  (ke (p.2.2.2.2.2.2))
 o:=fun Z p e K=>K .normal ⟨[(0,.v (.int .u64 p.1)),(1,.v (.int .u64 p.2.1)),(6,.loc 0 0),(7,.v (.all 0))],[[.bool p.2.2.2.1,.int .i64 p.2.2.2.2.1,.int .i64 p.2.2.2.2.2.1]],⟨[.cells (.int .i64) e],0⟩,0⟩
 pol:=⟨[0,1,6,7,76],[],[],[]⟩
 pe:=[(.normal,⟨[0,1,6,7],[],[],[]⟩)]
def f123_r17:PD (Int×Int×Bool×Int×Int×(List Int)) (Bool) where
 sk:=⟨[(0,.v (.int .u64)),(1,.v (.int .u64)),(6,.loc 0 0),(7,.v (.all 0))],[kC],[.cells (.int .i64)],0,0⟩
 p:=fun u=>(u.1.1,u.1.2.1,u.2.1.1.1,u.2.1.1.2.1,u.2.1.1.2.2.1,u.2.2.1)
 n:=fun p=>((p.1,(p.2.1,((),()))),(((p.2.2.1,(p.2.2.2.1,(p.2.2.2.2.1,()))),()),(p.2.2.2.2.2,())))
 st:=fun Y p ke=>cond (decide ((nt (List.length p.2.2.2.2.2))=(1:Int)))
  (ask (V.inRange 0 (List.length p.2.2.2.2.2)) (cond (decide ((gx p.2.2.2.2.2 0 (0:Int))<(0:Int)))
  (ask (V.inRange 0 (List.length p.2.2.2.2.2)) ((f111_m (gx p.2.2.2.2.2 0 (0:Int))).bind fun r1=>
  ke ((decide (p.1<=(wu64 ((2147483648:Int)-r1)))))))
  (ke (false))))
  (ke (false))
 o:=fun Z p e K=>K .normal ⟨[(0,.v (.int .u64 p.1)),(1,.v (.int .u64 p.2.1)),(6,.loc 0 0),(7,.v (.all 0)),(97,.v (.bool e))],[[.bool p.2.2.1,.int .i64 p.2.2.2.1,.int .i64 p.2.2.2.2.1]],⟨[.cells (.int .i64) p.2.2.2.2.2],0⟩,0⟩
 pol:=⟨[0,1,6,7],[],[],[]⟩
 pe:=[(.normal,⟨[0,1,6,7,97],[],[],[]⟩)]
def f123_c18:PD (Int×Int×Bool×Bool×Int×Int×(List Int)) ((List Int)) where
 sk:=⟨[(0,.v (.int .u64)),(1,.v (.int .u64)),(6,.loc 0 0),(7,.v (.all 0)),(97,.v .bool)],[kC],[.cells (.int .i64)],0,0⟩
 p:=fun u=>(u.1.1,u.1.2.1,u.1.2.2.2.1,u.2.1.1.1,u.2.1.1.2.1,u.2.1.1.2.2.1,u.2.2.1)
 n:=fun p=>((p.1,(p.2.1,((),(p.2.2.1,())))),(((p.2.2.2.1,(p.2.2.2.2.1,(p.2.2.2.2.2.1,()))),()),(p.2.2.2.2.2.2,())))
 st:=fun Y p ke=>cond p.2.2.1
  (ask (decide (((List.length p.2.2.2.2.2.2)+(List.length ([0]:List Int))) * 8<=70368744177664)&&decide (((List.length p.2.2.2.2.2.2)+(List.length ([0]:List Int)))<9223372036854775808)) (ke ((p.2.2.2.2.2.2++([0]:List Int)))))
  (ke (p.2.2.2.2.2.2))
 o:=fun Z p e K=>K .normal ⟨[(0,.v (.int .u64 p.1)),(1,.v (.int .u64 p.2.1)),(6,.loc 0 0),(7,.v (.all 0))],[[.bool p.2.2.2.1,.int .i64 p.2.2.2.2.1,.int .i64 p.2.2.2.2.2.1]],⟨[.cells (.int .i64) e],0⟩,0⟩
 pol:=⟨[0,1,6,7,97],[],[],[]⟩
 pe:=[(.normal,⟨[0,1,6,7],[],[],[]⟩)]
def f123_c {X:Type} (a:Int×Int×Bool) (K:TCongr->Option X):Option X:=
 cond (decide (a.1=(0:Int)))
 ((f123_r2.m (a.2,false,0,0)).bind fun e1=>
 cond e1
 (K (false,(0,(wi64 ((0:Int)-(wi64 a.2.1))))))
 ((f123_r4.m (a.2,false,0,0)).bind fun e2=>
 cond e2
 (K (false,(0,(wi64 a.2.1))))
 (K (true,(0,0)))))
 (cond (decide (a.1=(0:Int)))
 (none)
 ((f123_r8.m (a.1,(Int.tmod a.2.1 a.1),a.2.2,false,0,0)).bind fun e3=>
 (f123_c9.m (a.1,(Int.tmod a.2.1 a.1),e3,false,0,0)).bind fun e4=>
 (f123_c12.m (a.1,e4,(decide (e4<=(2147483647:Int))),false,0,0)).bind fun e5=>
 (f123_c14.m (a.1,e4,(decide ((wu64 (a.1-e4))<=(2147483648:Int))),false,0,0,e5)).bind fun e6=>
 (f123_r15.m (a.1,e4,false,0,0,e6)).bind fun e7=>
 (f123_c16.m (a.1,e4,e7,false,0,0,e6)).bind fun e8=>
 (f123_r17.m (a.1,e4,false,0,0,e8)).bind fun e9=>
 (f123_c18.m (a.1,e4,e9,false,0,0,e8)).bind fun e10=>
 cond (decide ((nt (List.length e10))=(0:Int)))
 (K (true,(0,0)))
 (cond (decide ((nt (List.length e10))=(1:Int)))
 (ask (V.inRange 0 (List.length e10)) (K (false,(0,(gx e10 0 (0:Int))))))
 (K (false,((wi64 a.1),(wi64 e4)))))))
def f123_m (a:Int×Int×Bool):Option (TCongr):=f123_c a some
def f123_sp:Spec:=f123_s.sp f123_m
noncomputable def f123_e:Env:=⟨fun k=>[1000009,1000012,1000014,1000016,1000018,2000002,2000004,2000008,2000015,2000017].contains k,callsL [(105,f105_sp),(111,f111_sp)],fun X k s K=>if k=2000002 then f123_r2.q X s K else if k=2000004 then f123_r4.q X s K else if k=2000008 then f123_r8.q X s K else if k=1000009 then f123_c9.q X s K else if k=1000012 then f123_c12.q X s K else if k=1000014 then f123_c14.q X s K else if k=2000015 then f123_r15.q X s K else if k=1000016 then f123_c16.q X s K else if k=2000017 then f123_r17.q X s K else if k=1000018 then f123_c18.q X s K else none⟩
noncomputable def f123_r2_c:Code:=subAt [1,0,1,0,0,0] (bodyOf Tryz.f123)
theorem f123_r2_ok (hc:SimCall C f123_e.call):LoopSim f123_e.loop (vc par C true [6] 117) f123_r2_c:=
 pO (env0:=⟨offJ f123_e.join 2000002,f123_e.call,f123_e.loop⟩) hc rfl f123_r2 (by intros;simp only [f123_r2,PD.m,nn])
noncomputable def f123_r4_c:Code:=subAt [1,0,1,0,1,0,0] (bodyOf Tryz.f123)
theorem f123_r4_ok (hc:SimCall C f123_e.call):LoopSim f123_e.loop (vc par C true [6] 117) f123_r4_c:=
 pO (env0:=⟨offJ f123_e.join 2000004,f123_e.call,f123_e.loop⟩) hc rfl f123_r4 (by intros;simp only [f123_r4,PD.m,nn])
noncomputable def f123_r8_c:Code:=subAt [1,1,1,0,0] (bodyOf Tryz.f123)
theorem f123_r8_ok (hc:SimCall C f123_e.call):LoopSim f123_e.loop (vc par C true [6] 117) f123_r8_c:=
 pO (env0:=⟨offJ f123_e.join 2000008,f123_e.call,f123_e.loop⟩) hc rfl f123_r8 (by intros;simp only [f123_r8,PD.m,nn])
noncomputable def f123_c9_c:Code:=subAt [1,1,1,0,1] (bodyOf Tryz.f123)
theorem f123_c9_ok (hc:SimCall C f123_e.call):LoopSim f123_e.loop (vc par C true [6] 117) f123_c9_c:=
 pO (env0:=⟨offJ f123_e.join 1000009,f123_e.call,f123_e.loop⟩) hc rfl f123_c9 (by intros;simp only [f123_c9,PD.m,nn])
noncomputable def f123_c12_c:Code:=subAt [1,1,1,1,1,0,1] (bodyOf Tryz.f123)
theorem f123_c12_ok (hc:SimCall C f123_e.call):LoopSim f123_e.loop (vc par C true [6] 117) f123_c12_c:=
 pO (env0:=⟨offJ f123_e.join 1000012,f123_e.call,f123_e.loop⟩) hc rfl f123_c12 (by intros;simp only [f123_c12,PD.m,nn])
noncomputable def f123_c14_c:Code:=subAt [1,1,1,1,1,1,0,1] (bodyOf Tryz.f123)
theorem f123_c14_ok (hc:SimCall C f123_e.call):LoopSim f123_e.loop (vc par C true [6] 117) f123_c14_c:=
 pO (env0:=⟨offJ f123_e.join 1000014,f123_e.call,f123_e.loop⟩) hc rfl f123_c14 (by intros;simp only [f123_c14,PD.m,nn])
noncomputable def f123_r15_c:Code:=subAt [1,1,1,1,1,1,1,0,0] (bodyOf Tryz.f123)
theorem f123_r15_ok (hc:SimCall C f123_e.call):LoopSim f123_e.loop (vc par C true [6] 117) f123_r15_c:=
 pO (env0:=⟨offJ f123_e.join 2000015,f123_e.call,f123_e.loop⟩) hc rfl f123_r15 (by intros;simp only [f123_r15,PD.m,nn])
noncomputable def f123_c16_c:Code:=subAt [1,1,1,1,1,1,1,0,1] (bodyOf Tryz.f123)
theorem f123_c16_ok (hc:SimCall C f123_e.call):LoopSim f123_e.loop (vc par C true [6] 117) f123_c16_c:=
 pO (env0:=⟨offJ f123_e.join 1000016,f123_e.call,f123_e.loop⟩) hc rfl f123_c16 (by intros;simp only [f123_c16,PD.m,nn])
noncomputable def f123_r17_c:Code:=subAt [1,1,1,1,1,1,1,1,0,0] (bodyOf Tryz.f123)
theorem f123_r17_ok (hc:SimCall C f123_e.call):LoopSim f123_e.loop (vc par C true [6] 117) f123_r17_c:=
 pO (env0:=⟨offJ f123_e.join 2000017,f123_e.call,f123_e.loop⟩) hc rfl f123_r17 (by intros;simp only [f123_r17,PD.m,nn])
noncomputable def f123_c18_c:Code:=subAt [1,1,1,1,1,1,1,1,0,1] (bodyOf Tryz.f123)
theorem f123_c18_ok (hc:SimCall C f123_e.call):LoopSim f123_e.loop (vc par C true [6] 117) f123_c18_c:=
 pO (env0:=⟨offJ f123_e.join 1000018,f123_e.call,f123_e.loop⟩) hc rfl f123_c18 (by intros;simp only [f123_c18,PD.m,nn])
theorem f123_ok:OK (2) 123 (f123_s.sp f123_m):=
 fO (d:=1) (env:=f123_e) (callsL_sim (cc f105_ok (cc f111_ok cn))) (fn:=Tryz.f123) (mc:=@f123_c) (by intros;simp only [f123_m,f123_c,nn]) (locs:=[6]) (hl:=fun hc=>(lp_of (by kernel_rfl) (lp_cons (f123_r2_ok hc) (lp_cons (f123_r4_ok hc) (lp_cons (f123_r8_ok hc) (lp_cons (f123_c9_ok hc) (lp_cons (f123_c12_ok hc) (lp_cons (f123_c14_ok hc) (lp_cons (f123_r15_ok hc) (lp_cons (f123_c16_ok hc) (lp_cons (f123_r17_ok hc) (lp_cons (f123_c18_ok hc) lp_nil))))))))))))
def f71_s:FS (Int×Int) (TCongr) where
 sk:=⟨kI,[],0⟩
 a:=fun u=>(u.1.1,u.1.2.1)
 n:=fun a=>((a.1,(a.2,())),())
 o:=fun Z a r K=>K (.agg [.bool r.1,.int .i64 r.2.1,.int .i64 r.2.2]) ⟨[],0⟩
def f71_c {X:Type} (a:Int×Int) (K:TCongr->Option X):Option X:=
 (f111_m a.1).bind fun r1=>
 (f111_m a.2).bind fun r2=>
 (f123_m (r1,r2,(decide (a.2<(0:Int))))).bind fun r3=>
 K r3
def f71_m (a:Int×Int):Option (TCongr):=f71_c a some
def f71_sp:Spec:=f71_s.sp f71_m
noncomputable def f71_e:Env:=⟨fun k=>[].contains k,callsL [(111,f111_sp),(123,f123_sp)],fun X k s K=>none⟩
theorem f71_ok:OK (3) 71 (f71_s.sp f71_m):=
 fO (d:=2) (env:=f71_e) (callsL_sim (cc f111_ok (cc f123_ok cn))) (fn:=Tryz.f71) (mc:=@f71_c) (by intros;simp only [f71_m,f71_c,nn]) (locs:=[4])
def f82_s:FS (TCongr) (Bool) where
 sk:=⟨(.cons (.agg kC) .nil),[],0⟩
 a:=fun u=>(q3 u.1.1)
 n:=fun a=>(((w3 a),()),())
 o:=fun Z a r K=>K (.bool r) ⟨[],0⟩
def f82_c {X:Type} (a:TCongr) (K:Bool->Option X):Option X:=
 cond a.1
 (cond (decide (a.2.1=(0:Int)))
 (K (decide (a.2.2=(0:Int))))
 (K false))
 (cond (decide ((0:Int)<=a.2.1))
 ((f71_m (a.2.1,a.2.2)).bind fun r1=>
 K ((a.1==r1.1)&&((decide (a.2.1=r1.2.1))&&((decide (a.2.2=r1.2.2))&&true))))
 (K false))
def f82_m (a:TCongr):Option (Bool):=f82_c a some
def f82_sp:Spec:=f82_s.sp f82_m
noncomputable def f82_e:Env:=⟨fun k=>[].contains k,callsL [(71,f71_sp)],fun X k s K=>none⟩
theorem f82_ok:OK (4) 82 (f82_s.sp f82_m):=
 fO (d:=3) (env:=f82_e) (callsL_sim (cc f71_ok cn)) (fn:=Tryz.f82) (mc:=@f82_c) (by intros;simp only [f82_m,f82_c,nn]) (locs:=[1])
def f44_s:FS ((List TCongr)×Int) (Bool) where
 sk:=⟨(.cons (.lit cCongr) (.cons (.int .i64) .nil)),[],0⟩
 a:=fun u=>(u.1.1,u.1.2.1)
 n:=fun a=>((a.1,(a.2,())),())
 o:=fun Z a r K=>K (.bool r) ⟨[],0⟩
def f44_l4:LD (((List TCongr)×Int)) (Int) ((Unit) ⊕ (Unit)) where
 sk:=⟨[(0,.v (.lit cCongr)),(1,.v (.int .i64)),(5,.v (.int .i64))],[],[],0,0⟩
 p:=fun u=>(u.1.1,u.1.2.1)
 t:=fun u=>u.1.2.2.1
 n:=fun p t=>((p.1,(p.2,(t,()))),((),()))
 st:=fun Y p t ki ke=>cond (decide (t<p.2))
  (ask (V.inRange t (List.length p.1)) (cond (gx p.1 (Int.toNat t) dCongr).1
  (ke (.inl ()))
  (ask (V.inRange t (List.length p.1)) ((f82_m (gx p.1 (Int.toNat t) dCongr)).bind fun r1=>
  cond (!r1)
  (ke (.inl ()))
  (ki ((wi64 (t+(1:Int)))))))))
  (ke (.inr (())))
 o:=fun Z p e K=>Sum.elim (fun e=>K .ret ⟨[(4,.v (.bool false))],[],⟨[],0⟩,0⟩) (fun e=>K (.exit 0) ⟨[],[],⟨[],0⟩,0⟩) e
 pol:=⟨[0,1,5],[],[],[]⟩
 pe:=[(.ret,⟨[4],[],[],[]⟩),(.exit 0,⟨[],[],[],[]⟩)]
def f44_c {X:Type} (a:(List TCongr)×Int) (K:Bool->Option X):Option X:=
 cond (!(decide ((nt (List.length a.1))=a.2)))
 (K false)
 ((loopAll (f44_l4.m a) 0).bind fun e1=>
 Sum.elim (fun e2=>K false)
 (fun e3=>K true) e1)
def f44_m (a:(List TCongr)×Int):Option (Bool):=f44_c a some
def f44_sp:Spec:=f44_s.sp f44_m
noncomputable def f44_e:Env:=⟨fun k=>[].contains k,callsL [(82,f82_sp)],fun X k s K=>if k=4 then f44_l4.q X s K else none⟩
noncomputable def f44_l4_c:Code:=subAt [1,1,0,1,0,0] (bodyOf Tryz.f44)
theorem f44_l4_ok (hc:SimCall C f44_e.call):LoopSim f44_e.loop (vc par C true [] 28) (.loop f44_l4_c):=
 lO hc f44_l4 (by intros;simp only [f44_l4,LD.m,nn])
theorem f44_ok:OK (5) 44 (f44_s.sp f44_m):=
 fO (d:=4) (env:=f44_e) (callsL_sim (cc f82_ok cn)) (fn:=Tryz.f44) (mc:=@f44_c) (by intros;simp only [f44_m,f44_c,nn]) (hl:=fun hc=>(lp_of (by kernel_rfl) (lp_cons (f44_l4_ok hc) lp_nil)))
def f11_s:FS (TGraph×TMods) (Bool) where
 sk:=⟨(.cons (.agg kG) (.cons (.agg kM) .nil)),[],0⟩
 a:=fun u=>((q8 u.1.1),(q3 u.1.2.1))
 n:=fun a=>(((w8 a.1),((w3 a.2),())),())
 o:=fun Z a r K=>K (.bool r) ⟨[],0⟩
def f11_c {X:Type} (a:TGraph×TMods) (K:Bool->Option X):Option X:=
 cond (!a.2.1)
 (cond (decide ((nt (List.length a.2.2.1))=(0:Int)))
 (K (decide ((nt (List.length a.2.2.2))=(0:Int))))
 (K false))
 ((f44_m (a.2.2.1,(nt (List.length a.1.2.2.2.2.2.1)))).bind fun r1=>
 cond r1
 ((f44_m (a.2.2.2,(nt (List.length a.1.2.2.2.2.2.2.1)))).bind fun r2=>
 K r2)
 (K false))
def f11_m (a:TGraph×TMods):Option (Bool):=f11_c a some
def f11_sp:Spec:=f11_s.sp f11_m
noncomputable def f11_e:Env:=⟨fun k=>[].contains k,callsL [(44,f44_sp)],fun X k s K=>none⟩
theorem f11_ok:OK (6) 11 (f11_s.sp f11_m):=
 fO (d:=5) (env:=f11_e) (callsL_sim (cc f44_ok cn)) (fn:=Tryz.f11) (mc:=@f11_c) (by intros;simp only [f11_m,f11_c,nn]) (locs:=[2,3])
def f15_s:FS (TMods) (Unit) where
 sk:=⟨(.cons (.agg kM) .nil),[],0⟩
 a:=fun u=>(q3 u.1.1)
 n:=fun a=>(((w3 a),()),())
 o:=fun Z a r K=>K (.agg [.bool a.1,.all 0,.all 1]) ⟨[.cells cCongr a.2.1,.cells cCongr a.2.2],0⟩
def f15_c {X:Type} (a:TMods) (K:Unit->Option X):Option X:=
 ask (decide ((List.length a.2.1) * 24<=70368744177664)&&decide ((List.length a.2.1)<9223372036854775808)) (ask (decide ((List.length a.2.2) * 24<=70368744177664)&&decide ((List.length a.2.2)<9223372036854775808)) (K ()))
def f15_m (a:TMods):Option (Unit):=f15_c a some
def f15_sp:Spec:=f15_s.sp f15_m
noncomputable def f15_e:Env:=⟨fun k=>[].contains k,callsL [],fun X k s K=>none⟩
theorem f15_ok:OK (1) 15 (f15_s.sp f15_m):=
 fO (d:=0) (env:=f15_e) (callsL_sim cn) (fn:=Tryz.f15) (mc:=@f15_c) (by intros;simp only [f15_m,f15_c,nn]) (locs:=[1,2,3]) (sh:=(.agg [.any,(.own cCongr),(.own cCongr)]))
def f46v1_s:FS (TGraph×Bool×(List TCongr)×(List TCongr)) ((List (Int×TInstr))×(List (Int×TCongr))) where
 sk:=⟨(.cons (.agg kG) (.cons (.agg (.cons .bool (.cons (.all 0) (.cons (.all 1) .nil)))) .nil)),[.cells cCongr,.cells cCongr],2⟩
 a:=fun u=>((q8 u.1.1),u.1.2.1.1,u.2.1,u.2.2.1)
 n:=fun a=>(((w8 a.1),((a.2.1,((),((),()))),())),(a.2.2.1,(a.2.2.2,())))
 o:=fun Z a r K=>K (.ptr 2 0) ⟨[.cells cCongr a.2.2.1,.cells cCongr a.2.2.2,.opn [.lit cInstr a.1.1,.int .i64 a.1.2.1,.int .i64 a.1.2.2.1,.int .i64 a.1.2.2.2.1,.lit cArray a.1.2.2.2.2.1,.lit cScalar a.1.2.2.2.2.2.1,.lit cArray a.1.2.2.2.2.2.2.1,.lit cItv a.1.2.2.2.2.2.2.2,.bool a.2.1,.all 0,.all 1,.mp 3,.mp 4,.mp 5],.mapT (.int .i64) true cInstr r.1,.mapT (.int .i64) true cCongr r.2,.mapL (.int .i64) [((2:Int),.fn 85 []),((3:Int),.fn 87 []),((4:Int),.fn 89 []),((5:Int),.fn 90 []),((6:Int),.fn 91 []),((7:Int),.fn 92 []),((8:Int),.fn 93 []),((9:Int),.fn 83 []),((10:Int),.fn 83 [])]],2⟩
def f46v1_l3:LD ((List TInstr)×Int×((List TCongr)×(List TCongr))×TGraph×Bool×(List (Int×TCongr))) (Int×(List (Int×TInstr))) ((List (Int×TInstr))) where
 sk:=⟨[(5,.v (.ptr 2 0)),(16,.v (.lit cInstr)),(17,.v (.int .i64)),(18,.v (.int .i64))],[],[.cells cCongr,.cells cCongr,.opn (.cons (.lit cInstr) (.cons (.int .i64) (.cons (.int .i64) (.cons (.int .i64) (.cons (.lit cArray) (.cons (.lit cScalar) (.cons (.lit cArray) (.cons (.lit cItv) (.cons .bool (.cons (.all 0) (.cons (.all 1) (.cons (.mp 3) (.cons (.mp 4) (.cons .nilm .nil)))))))))))))),.mapT (.int .i64) true cInstr,.mapT (.int .i64) true cCongr],2,2⟩
 p:=fun u=>(u.1.2.1,u.1.2.2.1,(u.2.2.1,u.2.2.2.1),(q8 u.2.2.2.2.1),u.2.2.2.2.1.2.2.2.2.2.2.2.2.1,u.2.2.2.2.2.2.1)
 t:=fun u=>(u.1.2.2.2.1,u.2.2.2.2.2.1)
 n:=fun p t=>(((),(p.1,(p.2.1,(t.1,())))),((),(p.2.2.1.1,(p.2.2.1.2,((p.2.2.2.1.1,(p.2.2.2.1.2.1,(p.2.2.2.1.2.2.1,(p.2.2.2.1.2.2.2.1,(p.2.2.2.1.2.2.2.2.1,(p.2.2.2.1.2.2.2.2.2.1,(p.2.2.2.1.2.2.2.2.2.2.1,(p.2.2.2.1.2.2.2.2.2.2.2,(p.2.2.2.2.1,((),((),((),((),((),())))))))))))))),(t.2,(p.2.2.2.2.2,())))))))
 st:=fun Y p t ki ke=>cond (decide (t.1<p.2.1))
  (ask (V.inRange t.1 (List.length p.1)) (cond (decide ((1:Int)<=(gx p.1 (Int.toNat t.1) dInstr).1))
  (cond (decide ((gx p.1 (Int.toNat t.1) dInstr).1<=(12:Int)))
  (ki ((wi64 (t.1+(1:Int))),(setT (k:=(.int .i64)) (gx p.1 (Int.toNat t.1) dInstr).2.1 (gx p.1 (Int.toNat t.1) dInstr) t.2)))
  (ki ((wi64 (t.1+(1:Int))),t.2)))
  (ki ((wi64 (t.1+(1:Int))),t.2))))
  (ke (t.2))
 o:=fun Z p e K=>K (.exit 0) ⟨[(5,.v (.ptr 2 0))],[],⟨[.cells cCongr p.2.2.1.1,.cells cCongr p.2.2.1.2,.opn [.lit cInstr p.2.2.2.1.1,.int .i64 p.2.2.2.1.2.1,.int .i64 p.2.2.2.1.2.2.1,.int .i64 p.2.2.2.1.2.2.2.1,.lit cArray p.2.2.2.1.2.2.2.2.1,.lit cScalar p.2.2.2.1.2.2.2.2.2.1,.lit cArray p.2.2.2.1.2.2.2.2.2.2.1,.lit cItv p.2.2.2.1.2.2.2.2.2.2.2,.bool p.2.2.2.2.1,.all 0,.all 1,.mp 3,.mp 4,.nilm],.mapT (.int .i64) true cInstr e,.mapT (.int .i64) true cCongr p.2.2.2.2.2],2⟩,2⟩
 pol:=⟨[5,16,17,18],[],[],[]⟩
 pe:=[(.exit 0,⟨[5],[],[],[]⟩)]
def f46v1_c {X:Type} (a:TGraph×Bool×(List TCongr)×(List TCongr)) (K:(List (Int×TInstr))×(List (Int×TCongr))->Option X):Option X:=
 (loopAll (f46v1_l3.m (a.1.1,(nt (List.length a.1.1)),a.2.2,a.1,a.2.1,([]:List (Int×TCongr)))) (0,([]:List (Int×TInstr)))).bind fun e1=>
 K (e1,([]:List (Int×TCongr)))
def f46v1_m (a:TGraph×Bool×(List TCongr)×(List TCongr)):Option ((List (Int×TInstr))×(List (Int×TCongr))):=f46v1_c a some
def f46v1_sp:Spec:=f46v1_s.sp f46v1_m
noncomputable def f46v1_e:Env:=⟨fun k=>[].contains k,callsL [],fun X k s K=>if k=3 then f46v1_l3.q X s K else none⟩
noncomputable def f46v1_l3_c:Code:=subAt [1,1,0,1,0,0] (bodyOf Tryz.f46)
theorem f46v1_l3_ok (hc:SimCall C f46v1_e.call):LoopSim f46v1_e.loop (vc par C true [2,3,7] 46) (.loop f46v1_l3_c):=
 lO hc f46v1_l3 (by intros;simp only [f46v1_l3,LD.m,nn])
theorem f46v1_ok:OK (1) 46 (f46v1_s.sp f46v1_m):=
 fO (d:=0) (env:=f46v1_e) (callsL_sim cn) (fn:=Tryz.f46) (mc:=@f46v1_c) (by intros;simp only [f46v1_m,f46v1_c,nn]) (locs:=[2,3,7]) (hl:=fun hc=>(lp_of (by kernel_rfl) (lp_cons (f46v1_l3_ok hc) lp_nil)))
def f49v1_s:FS (Bool×(List TCongr)×(List TCongr)) (Unit) where
 sk:=⟨(.cons (.agg (.cons .bool (.cons (.all 0) (.cons (.all 1) .nil)))) .nil),[.cells cCongr,.cells cCongr],2⟩
 a:=fun u=>(u.1.1.1,u.2.1,u.2.2.1)
 n:=fun a=>(((a.1,((),((),()))),()),(a.2.1,(a.2.2,())))
 o:=fun Z a r K=>K (.agg [.bool a.1,.all 2,.all 3]) ⟨[.cells cCongr a.2.1,.cells cCongr a.2.2,.cells cCongr a.2.1,.cells cCongr a.2.2],2⟩
def f49v1_c {X:Type} (a:Bool×(List TCongr)×(List TCongr)) (K:Unit->Option X):Option X:=
 ask (decide ((List.length a.2.1) * 24<=70368744177664)&&decide ((List.length a.2.1)<9223372036854775808)) (ask (decide ((List.length a.2.2) * 24<=70368744177664)&&decide ((List.length a.2.2)<9223372036854775808)) (K ()))
def f49v1_m (a:Bool×(List TCongr)×(List TCongr)):Option (Unit):=f49v1_c a some
def f49v1_sp:Spec:=f49v1_s.sp f49v1_m
noncomputable def f49v1_e:Env:=⟨fun k=>[].contains k,callsL [],fun X k s K=>none⟩
theorem f49v1_ok:OK (1) 49 (f49v1_s.sp f49v1_m):=
 fO (d:=0) (env:=f49v1_e) (callsL_sim cn) (fn:=Tryz.f49) (mc:=@f49v1_c) (by intros;simp only [f49v1_m,f49v1_c,nn]) (locs:=[1,2]) (sh:=(.agg [.any,(.own cCongr),(.own cCongr)]))
def f47v1_s:FS (Int×TGraph×Bool×(List TCongr)×(List TCongr)×(List (Int×TInstr))×(List (Int×TCongr))) (TCongr×(List (Int×TCongr))) where
 sk:=⟨(.cons (.ptr 0 0) (.cons (.int .i64) .nil)),[.opn (.cons (.lit cInstr) (.cons (.int .i64) (.cons (.int .i64) (.cons (.int .i64) (.cons (.lit cArray) (.cons (.lit cScalar) (.cons (.lit cArray) (.cons (.lit cItv) (.cons .bool (.cons (.all 1) (.cons (.all 2) (.cons (.mp 3) (.cons (.mp 4) (.cons (.mp 5) .nil)))))))))))))),.cells cCongr,.cells cCongr,.mapT (.int .i64) true cInstr,.mapT (.int .i64) true cCongr,.mapL (.int .i64) [((2:Int),(.fn 85 .nil)),((3:Int),(.fn 87 .nil)),((4:Int),(.fn 89 .nil)),((5:Int),(.fn 90 .nil)),((6:Int),(.fn 91 .nil)),((7:Int),(.fn 92 .nil)),((8:Int),(.fn 93 .nil)),((9:Int),(.fn 83 .nil)),((10:Int),(.fn 83 .nil))]],0⟩
 a:=fun u=>(u.1.2.1,(q8 u.2.1),u.2.1.2.2.2.2.2.2.2.2.1,u.2.2.1,u.2.2.2.1,u.2.2.2.2.1,u.2.2.2.2.2.1)
 n:=fun a=>(((),(a.1,())),((a.2.1.1,(a.2.1.2.1,(a.2.1.2.2.1,(a.2.1.2.2.2.1,(a.2.1.2.2.2.2.1,(a.2.1.2.2.2.2.2.1,(a.2.1.2.2.2.2.2.2.1,(a.2.1.2.2.2.2.2.2.2,(a.2.2.1,((),((),((),((),((),())))))))))))))),(a.2.2.2.1,(a.2.2.2.2.1,(a.2.2.2.2.2.1,(a.2.2.2.2.2.2,(((),((),((),((),((),((),((),((),((),()))))))))),())))))))
 o:=fun Z a r K=>K (.agg [.bool r.1.1,.int .i64 r.1.2.1,.int .i64 r.1.2.2]) ⟨[.opn [.lit cInstr a.2.1.1,.int .i64 a.2.1.2.1,.int .i64 a.2.1.2.2.1,.int .i64 a.2.1.2.2.2.1,.lit cArray a.2.1.2.2.2.2.1,.lit cScalar a.2.1.2.2.2.2.2.1,.lit cArray a.2.1.2.2.2.2.2.2.1,.lit cItv a.2.1.2.2.2.2.2.2.2,.bool a.2.2.1,.all 1,.all 2,.mp 3,.mp 4,.mp 5],.cells cCongr a.2.2.2.1,.cells cCongr a.2.2.2.2.1,.mapT (.int .i64) true cInstr a.2.2.2.2.2.1,.mapT (.int .i64) true cCongr r.2,.mapL (.int .i64) [((2:Int),.fn 85 []),((3:Int),.fn 87 []),((4:Int),.fn 89 []),((5:Int),.fn 90 []),((6:Int),.fn 91 []),((7:Int),.fn 92 []),((8:Int),.fn 93 []),((9:Int),.fn 83 []),((10:Int),.fn 83 [])]],0⟩
class Rec47v1 where
 m:(Int×TGraph×Bool×(List TCongr)×(List TCongr)×(List (Int×TInstr))×(List (Int×TCongr)))->Option (TCongr×(List (Int×TCongr)))
section
variable [Rec47v1]
def f47v1_sp:Spec:=f47v1_s.sp Rec47v1.m
end
section
variable [Rec47v1]
def f94v1_s:FS (TInstr×TGraph×Bool×(List TCongr)×(List TCongr)×(List (Int×TInstr))×(List (Int×TCongr))) (TCongr×(List (Int×TCongr))) where
 sk:=⟨(.cons (.ptr 0 0) (.cons (.agg kN) .nil)),[.opn (.cons (.lit cInstr) (.cons (.int .i64) (.cons (.int .i64) (.cons (.int .i64) (.cons (.lit cArray) (.cons (.lit cScalar) (.cons (.lit cArray) (.cons (.lit cItv) (.cons .bool (.cons (.all 1) (.cons (.all 2) (.cons (.mp 3) (.cons (.mp 4) (.cons (.mp 5) .nil)))))))))))))),.cells cCongr,.cells cCongr,.mapT (.int .i64) true cInstr,.mapT (.int .i64) true cCongr,.mapL (.int .i64) [((2:Int),(.fn 85 .nil)),((3:Int),(.fn 87 .nil)),((4:Int),(.fn 89 .nil)),((5:Int),(.fn 90 .nil)),((6:Int),(.fn 91 .nil)),((7:Int),(.fn 92 .nil)),((8:Int),(.fn 93 .nil)),((9:Int),(.fn 83 .nil)),((10:Int),(.fn 83 .nil))]],0⟩
 a:=fun u=>((q8 u.1.2.1),(q8 u.2.1),u.2.1.2.2.2.2.2.2.2.2.1,u.2.2.1,u.2.2.2.1,u.2.2.2.2.1,u.2.2.2.2.2.1)
 n:=fun a=>(((),((w8 a.1),())),((a.2.1.1,(a.2.1.2.1,(a.2.1.2.2.1,(a.2.1.2.2.2.1,(a.2.1.2.2.2.2.1,(a.2.1.2.2.2.2.2.1,(a.2.1.2.2.2.2.2.2.1,(a.2.1.2.2.2.2.2.2.2,(a.2.2.1,((),((),((),((),((),())))))))))))))),(a.2.2.2.1,(a.2.2.2.2.1,(a.2.2.2.2.2.1,(a.2.2.2.2.2.2,(((),((),((),((),((),((),((),((),((),()))))))))),())))))))
 o:=fun Z a r K=>K (.agg [.bool r.1.1,.int .i64 r.1.2.1,.int .i64 r.1.2.2]) ⟨[.opn [.lit cInstr a.2.1.1,.int .i64 a.2.1.2.1,.int .i64 a.2.1.2.2.1,.int .i64 a.2.1.2.2.2.1,.lit cArray a.2.1.2.2.2.2.1,.lit cScalar a.2.1.2.2.2.2.2.1,.lit cArray a.2.1.2.2.2.2.2.2.1,.lit cItv a.2.1.2.2.2.2.2.2.2,.bool a.2.2.1,.all 1,.all 2,.mp 3,.mp 4,.mp 5],.cells cCongr a.2.2.2.1,.cells cCongr a.2.2.2.2.1,.mapT (.int .i64) true cInstr a.2.2.2.2.2.1,.mapT (.int .i64) true cCongr r.2,.mapL (.int .i64) [((2:Int),.fn 85 []),((3:Int),.fn 87 []),((4:Int),.fn 89 []),((5:Int),.fn 90 []),((6:Int),.fn 91 []),((7:Int),.fn 92 []),((8:Int),.fn 93 []),((9:Int),.fn 83 []),((10:Int),.fn 83 [])]],0⟩
def f94v1_c {X:Type} (a:TInstr×TGraph×Bool×(List TCongr)×(List TCongr)×(List (Int×TInstr))×(List (Int×TCongr))) (K:(TCongr×(List (Int×TCongr)))->Option X):Option X:=
 cond (decide (a.1.1=(1:Int)))
 ((f70_m a.1.2.2.2.2.1).bind fun r1=>
 K (r1,a.2.2.2.2.2.2))
 (cond (decide (a.1.1=(11:Int)))
 (ask (V.inRange a.1.2.2.1 (List.length a.2.2.2.2.1)) (K ((gx a.2.2.2.2.1 (Int.toNat a.1.2.2.1) dCongr),a.2.2.2.2.2.2)))
 (cond (decide (a.1.1=(12:Int)))
 (ask (V.inRange a.1.2.2.1 (List.length a.2.1.2.2.2.2.1)) (cond (decide ((gx a.2.1.2.2.2.2.1 (Int.toNat a.1.2.2.1) dArray).2.2.1=(gx a.2.1.2.2.2.2.1 (Int.toNat a.1.2.2.1) dArray).2.2.2))
 ((f70_m (gx a.2.1.2.2.2.2.1 (Int.toNat a.1.2.2.1) dArray).2.2.1).bind fun r2=>
 K (r2,a.2.2.2.2.2.2))
 ((f134_m ()).bind fun r3=>
 K (r3,a.2.2.2.2.2.2))))
 (cond (decide (a.1.1=(2:Int)))
 (cond (decide (a.1.1=(2:Int)))
 ((Rec47v1.m (a.1.2.2.1,a.2.1,a.2.2.1,a.2.2.2.1,a.2.2.2.2.1,a.2.2.2.2.2.1,a.2.2.2.2.2.2)).bind fun r4=>
 (f85_m (r4.1,(false,(0,0)))).bind fun r5=>
 K (r5,r4.2))
 (cond (decide (a.1.1=(3:Int)))
 ((Rec47v1.m (a.1.2.2.1,a.2.1,a.2.2.1,a.2.2.2.1,a.2.2.2.2.1,a.2.2.2.2.2.1,a.2.2.2.2.2.2)).bind fun r6=>
 (f87_m (r6.1,(false,(0,0)))).bind fun r7=>
 K (r7,r6.2))
 (cond (decide (a.1.1=(4:Int)))
 ((Rec47v1.m (a.1.2.2.1,a.2.1,a.2.2.1,a.2.2.2.1,a.2.2.2.2.1,a.2.2.2.2.2.1,a.2.2.2.2.2.2)).bind fun r8=>
 (f89_m (r8.1,(false,(0,0)))).bind fun r9=>
 K (r9,r8.2))
 (cond (decide (a.1.1=(5:Int)))
 ((Rec47v1.m (a.1.2.2.1,a.2.1,a.2.2.1,a.2.2.2.1,a.2.2.2.2.1,a.2.2.2.2.2.1,a.2.2.2.2.2.2)).bind fun r10=>
 (f90_m (r10.1,(false,(0,0)))).bind fun r11=>
 K (r11,r10.2))
 (cond (decide (a.1.1=(6:Int)))
 ((Rec47v1.m (a.1.2.2.1,a.2.1,a.2.2.1,a.2.2.2.1,a.2.2.2.2.1,a.2.2.2.2.2.1,a.2.2.2.2.2.2)).bind fun r12=>
 (f91_m (r12.1,(false,(0,0)))).bind fun r13=>
 K (r13,r12.2))
 (cond (decide (a.1.1=(7:Int)))
 ((Rec47v1.m (a.1.2.2.1,a.2.1,a.2.2.1,a.2.2.2.1,a.2.2.2.2.1,a.2.2.2.2.2.1,a.2.2.2.2.2.2)).bind fun r14=>
 (f92_m (r14.1,(false,(0,0)))).bind fun r15=>
 K (r15,r14.2))
 (cond (decide (a.1.1=(8:Int)))
 ((Rec47v1.m (a.1.2.2.1,a.2.1,a.2.2.1,a.2.2.2.1,a.2.2.2.2.1,a.2.2.2.2.2.1,a.2.2.2.2.2.2)).bind fun r16=>
 (f93_m (r16.1,(false,(0,0)))).bind fun r17=>
 K (r17,r16.2))
 (cond (decide (a.1.1=(9:Int)))
 ((Rec47v1.m (a.1.2.2.1,a.2.1,a.2.2.1,a.2.2.2.1,a.2.2.2.2.1,a.2.2.2.2.2.1,a.2.2.2.2.2.2)).bind fun r18=>
 (f83_m (r18.1,(false,(0,0)))).bind fun r19=>
 K (r19,r18.2))
 (cond (decide (a.1.1=(10:Int)))
 ((Rec47v1.m (a.1.2.2.1,a.2.1,a.2.2.1,a.2.2.2.1,a.2.2.2.2.1,a.2.2.2.2.2.1,a.2.2.2.2.2.2)).bind fun r20=>
 (f83_m (r20.1,(false,(0,0)))).bind fun r21=>
 K (r21,r20.2))
 ((Rec47v1.m (a.1.2.2.1,a.2.1,a.2.2.1,a.2.2.2.1,a.2.2.2.2.1,a.2.2.2.2.2.1,a.2.2.2.2.2.2)).bind fun r22=>
 none))))))))))
 (cond (decide (a.1.1=(3:Int)))
 (cond (decide (a.1.1=(2:Int)))
 ((Rec47v1.m (a.1.2.2.1,a.2.1,a.2.2.1,a.2.2.2.1,a.2.2.2.2.1,a.2.2.2.2.2.1,a.2.2.2.2.2.2)).bind fun r23=>
 (f85_m (r23.1,(false,(0,0)))).bind fun r24=>
 K (r24,r23.2))
 (cond (decide (a.1.1=(3:Int)))
 ((Rec47v1.m (a.1.2.2.1,a.2.1,a.2.2.1,a.2.2.2.1,a.2.2.2.2.1,a.2.2.2.2.2.1,a.2.2.2.2.2.2)).bind fun r25=>
 (f87_m (r25.1,(false,(0,0)))).bind fun r26=>
 K (r26,r25.2))
 (cond (decide (a.1.1=(4:Int)))
 ((Rec47v1.m (a.1.2.2.1,a.2.1,a.2.2.1,a.2.2.2.1,a.2.2.2.2.1,a.2.2.2.2.2.1,a.2.2.2.2.2.2)).bind fun r27=>
 (f89_m (r27.1,(false,(0,0)))).bind fun r28=>
 K (r28,r27.2))
 (cond (decide (a.1.1=(5:Int)))
 ((Rec47v1.m (a.1.2.2.1,a.2.1,a.2.2.1,a.2.2.2.1,a.2.2.2.2.1,a.2.2.2.2.2.1,a.2.2.2.2.2.2)).bind fun r29=>
 (f90_m (r29.1,(false,(0,0)))).bind fun r30=>
 K (r30,r29.2))
 (cond (decide (a.1.1=(6:Int)))
 ((Rec47v1.m (a.1.2.2.1,a.2.1,a.2.2.1,a.2.2.2.1,a.2.2.2.2.1,a.2.2.2.2.2.1,a.2.2.2.2.2.2)).bind fun r31=>
 (f91_m (r31.1,(false,(0,0)))).bind fun r32=>
 K (r32,r31.2))
 (cond (decide (a.1.1=(7:Int)))
 ((Rec47v1.m (a.1.2.2.1,a.2.1,a.2.2.1,a.2.2.2.1,a.2.2.2.2.1,a.2.2.2.2.2.1,a.2.2.2.2.2.2)).bind fun r33=>
 (f92_m (r33.1,(false,(0,0)))).bind fun r34=>
 K (r34,r33.2))
 (cond (decide (a.1.1=(8:Int)))
 ((Rec47v1.m (a.1.2.2.1,a.2.1,a.2.2.1,a.2.2.2.1,a.2.2.2.2.1,a.2.2.2.2.2.1,a.2.2.2.2.2.2)).bind fun r35=>
 (f93_m (r35.1,(false,(0,0)))).bind fun r36=>
 K (r36,r35.2))
 (cond (decide (a.1.1=(9:Int)))
 ((Rec47v1.m (a.1.2.2.1,a.2.1,a.2.2.1,a.2.2.2.1,a.2.2.2.2.1,a.2.2.2.2.2.1,a.2.2.2.2.2.2)).bind fun r37=>
 (f83_m (r37.1,(false,(0,0)))).bind fun r38=>
 K (r38,r37.2))
 (cond (decide (a.1.1=(10:Int)))
 ((Rec47v1.m (a.1.2.2.1,a.2.1,a.2.2.1,a.2.2.2.1,a.2.2.2.2.1,a.2.2.2.2.2.1,a.2.2.2.2.2.2)).bind fun r39=>
 (f83_m (r39.1,(false,(0,0)))).bind fun r40=>
 K (r40,r39.2))
 ((Rec47v1.m (a.1.2.2.1,a.2.1,a.2.2.1,a.2.2.2.1,a.2.2.2.2.1,a.2.2.2.2.2.1,a.2.2.2.2.2.2)).bind fun r41=>
 none))))))))))
 (cond (decide (a.1.1=(2:Int)))
 ((Rec47v1.m (a.1.2.2.1,a.2.1,a.2.2.1,a.2.2.2.1,a.2.2.2.2.1,a.2.2.2.2.2.1,a.2.2.2.2.2.2)).bind fun r42=>
 (Rec47v1.m (a.1.2.2.2.1,a.2.1,a.2.2.1,a.2.2.2.1,a.2.2.2.2.1,a.2.2.2.2.2.1,r42.2)).bind fun r43=>
 (f85_m (r42.1,r43.1)).bind fun r44=>
 K (r44,r43.2))
 (cond (decide (a.1.1=(3:Int)))
 ((Rec47v1.m (a.1.2.2.1,a.2.1,a.2.2.1,a.2.2.2.1,a.2.2.2.2.1,a.2.2.2.2.2.1,a.2.2.2.2.2.2)).bind fun r45=>
 (Rec47v1.m (a.1.2.2.2.1,a.2.1,a.2.2.1,a.2.2.2.1,a.2.2.2.2.1,a.2.2.2.2.2.1,r45.2)).bind fun r46=>
 (f87_m (r45.1,r46.1)).bind fun r47=>
 K (r47,r46.2))
 (cond (decide (a.1.1=(4:Int)))
 ((Rec47v1.m (a.1.2.2.1,a.2.1,a.2.2.1,a.2.2.2.1,a.2.2.2.2.1,a.2.2.2.2.2.1,a.2.2.2.2.2.2)).bind fun r48=>
 (Rec47v1.m (a.1.2.2.2.1,a.2.1,a.2.2.1,a.2.2.2.1,a.2.2.2.2.1,a.2.2.2.2.2.1,r48.2)).bind fun r49=>
 (f89_m (r48.1,r49.1)).bind fun r50=>
 K (r50,r49.2))
 (cond (decide (a.1.1=(5:Int)))
 ((Rec47v1.m (a.1.2.2.1,a.2.1,a.2.2.1,a.2.2.2.1,a.2.2.2.2.1,a.2.2.2.2.2.1,a.2.2.2.2.2.2)).bind fun r51=>
 (Rec47v1.m (a.1.2.2.2.1,a.2.1,a.2.2.1,a.2.2.2.1,a.2.2.2.2.1,a.2.2.2.2.2.1,r51.2)).bind fun r52=>
 (f90_m (r51.1,r52.1)).bind fun r53=>
 K (r53,r52.2))
 (cond (decide (a.1.1=(6:Int)))
 ((Rec47v1.m (a.1.2.2.1,a.2.1,a.2.2.1,a.2.2.2.1,a.2.2.2.2.1,a.2.2.2.2.2.1,a.2.2.2.2.2.2)).bind fun r54=>
 (Rec47v1.m (a.1.2.2.2.1,a.2.1,a.2.2.1,a.2.2.2.1,a.2.2.2.2.1,a.2.2.2.2.2.1,r54.2)).bind fun r55=>
 (f91_m (r54.1,r55.1)).bind fun r56=>
 K (r56,r55.2))
 (cond (decide (a.1.1=(7:Int)))
 ((Rec47v1.m (a.1.2.2.1,a.2.1,a.2.2.1,a.2.2.2.1,a.2.2.2.2.1,a.2.2.2.2.2.1,a.2.2.2.2.2.2)).bind fun r57=>
 (Rec47v1.m (a.1.2.2.2.1,a.2.1,a.2.2.1,a.2.2.2.1,a.2.2.2.2.1,a.2.2.2.2.2.1,r57.2)).bind fun r58=>
 (f92_m (r57.1,r58.1)).bind fun r59=>
 K (r59,r58.2))
 (cond (decide (a.1.1=(8:Int)))
 ((Rec47v1.m (a.1.2.2.1,a.2.1,a.2.2.1,a.2.2.2.1,a.2.2.2.2.1,a.2.2.2.2.2.1,a.2.2.2.2.2.2)).bind fun r60=>
 (Rec47v1.m (a.1.2.2.2.1,a.2.1,a.2.2.1,a.2.2.2.1,a.2.2.2.2.1,a.2.2.2.2.2.1,r60.2)).bind fun r61=>
 (f93_m (r60.1,r61.1)).bind fun r62=>
 K (r62,r61.2))
 (cond (decide (a.1.1=(9:Int)))
 ((Rec47v1.m (a.1.2.2.1,a.2.1,a.2.2.1,a.2.2.2.1,a.2.2.2.2.1,a.2.2.2.2.2.1,a.2.2.2.2.2.2)).bind fun r63=>
 (Rec47v1.m (a.1.2.2.2.1,a.2.1,a.2.2.1,a.2.2.2.1,a.2.2.2.2.1,a.2.2.2.2.2.1,r63.2)).bind fun r64=>
 (f83_m (r63.1,r64.1)).bind fun r65=>
 K (r65,r64.2))
 (cond (decide (a.1.1=(10:Int)))
 ((Rec47v1.m (a.1.2.2.1,a.2.1,a.2.2.1,a.2.2.2.1,a.2.2.2.2.1,a.2.2.2.2.2.1,a.2.2.2.2.2.2)).bind fun r66=>
 (Rec47v1.m (a.1.2.2.2.1,a.2.1,a.2.2.1,a.2.2.2.1,a.2.2.2.2.1,a.2.2.2.2.2.1,r66.2)).bind fun r67=>
 (f83_m (r66.1,r67.1)).bind fun r68=>
 K (r68,r67.2))
 ((Rec47v1.m (a.1.2.2.1,a.2.1,a.2.2.1,a.2.2.2.1,a.2.2.2.2.1,a.2.2.2.2.2.1,a.2.2.2.2.2.2)).bind fun r69=>
 (Rec47v1.m (a.1.2.2.2.1,a.2.1,a.2.2.1,a.2.2.2.1,a.2.2.2.2.1,a.2.2.2.2.2.1,r69.2)).bind fun r70=>
 none))))))))))))))
def f94v1_m (a:TInstr×TGraph×Bool×(List TCongr)×(List TCongr)×(List (Int×TInstr))×(List (Int×TCongr))):Option (TCongr×(List (Int×TCongr))):=f94v1_c a some
def f94v1_sp:Spec:=f94v1_s.sp f94v1_m
noncomputable def f94v1_e:Env:=⟨fun k=>[].contains k,callsL [(70,f70_sp),(134,f134_sp),(47,f47v1_sp),(85,f85_sp),(87,f87_sp),(89,f89_sp),(90,f90_sp),(91,f91_sp),(92,f92_sp),(93,f93_sp),(83,f83_sp)],fun X k s K=>none⟩
theorem f94v1_ok {D:Nat} (hrec:OK D 47 f47v1_sp):OK (D+8) 94 (f94v1_s.sp f94v1_m):=
 fO (d:=D+7) (env:=f94v1_e) (callsL_sim (cc f70_ok (cc f134_ok (cc hrec (cc f85_ok (cc f87_ok (cc f89_ok (cc f90_ok (cc f91_ok (cc f92_ok (cc f93_ok (cc f83_ok cn)))))))))))) (fn:=Tryz.f94) (mc:=fun X a K=>f94v1_c a K) (by intros;simp only [f94v1_m,f94v1_c,nn]) (locs:=[3,4,5,1000057,1000070,1000074])
end
end
end Go.U
end
