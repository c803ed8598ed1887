/- The functions of the program as Lean functions, and that the evaluator says so. -/
import Derived.Test.YtcbcifeaalkdfaaGreatDoorC4
set_option linter.unusedVariables false
set_option linter.unusedSimpArgs false
set_option linter.unusedSectionVars false
section
set_option maxRecDepth 100000
namespace Go.U
open Go Go.Proofs
noncomputable section
variable {C:V.Callee}
def f158_s:FS (Int) (Int) where
 sk:=⟨(.cons (.int .i64) .nil),[],0⟩
 a:=fun u=>u.1.1
 n:=fun a=>((a,()),())
 o:=fun Z a r K=>K (.int .i64 r) ⟨[],0⟩
def f158_c {X:Type} (a:Int) (K:Int→Option X):Option X:=
 cond (decide ((4611686018427387904:Int)≤a))
 (K 1)
 (cond (decide (a≤(-4611686018427387904:Int)))
 (K (-1))
 (K 0))
def f158_m (a:Int):Option (Int):=f158_c a some
def f158_sp:Spec:=f158_s.sp f158_m
noncomputable def f158_e:Env:=⟨fun k=>[].contains k,callsL [],fun X k s K=>none⟩
theorem f158_ok:OK (1) 158 (f158_s.sp f158_m):=
 fO (d:=0) (env:=f158_e) (callsL_sim cn) (fn:=Tryz.f158) (mc:=@f158_c) (by intros;simp only [f158_m,f158_c,nn])
def f119_s:FS (Int) (ByteArray) where
 sk:=⟨(.cons (.int .i64) .nil),[],0⟩
 a:=fun u=>u.1.1
 n:=fun a=>((a,()),())
 o:=fun Z a r K=>K (.str r) ⟨[],0⟩
def f119_c {X:Type} (a:Int) (K:ByteArray→Option X):Option X:=
 (f158_m a).bind fun r1=>
 cond (decide (r1=(1:Int)))
 (none)
 (cond (decide (r1=(-1:Int)))
 (none)
 ((f120_m (a,10)).bind fun r2=>
 K r2))
def f119_m (a:Int):Option (ByteArray):=f119_c a some
def f119_sp:Spec:=f119_s.sp f119_m
noncomputable def f119_e:Env:=⟨fun k=>[].contains k,callsL [(158,f158_sp),(120,f120_sp)],fun X k s K=>none⟩
theorem f119_ok:OK (2) 119 (f119_s.sp f119_m):=
 fO (d:=1) (env:=f119_e) (callsL_sim (cc f158_ok (cc f120_ok cn))) (fn:=Tryz.f119) (mc:=@f119_c) (by intros;simp only [f119_m,f119_c,nn])
def f67_s:FS (TCongr) (ByteArray) where
 sk:=⟨(.cons (.agg kC) .nil),[],0⟩
 a:=fun u=>(q3 u.1.1)
 n:=fun a=>(((w3 a),()),())
 o:=fun Z a r K=>K (.str r) ⟨[],0⟩
def f67_c {X:Type} (a:TCongr) (K:ByteArray→Option X):Option X:=
 cond a.1
 (K (str [110,111,110,101]))
 (cond (decide (a.2.1=(0:Int)))
 ((f119_m a.2.2).bind fun r1=>
 K r1)
 (cond (decide (a.2.1=(1:Int)))
 (K (str [97,108,108]))
 ((f120_m (a.2.2,10)).bind fun r2=>
 ask (decide (ByteArray.size r2+ByteArray.size (str [32,109,111,100,32])≤9223372036854775807)) ((f120_m (a.2.1,10)).bind fun r3=>
 ask (decide (ByteArray.size (r2++(str [32,109,111,100,32]))+ByteArray.size r3≤9223372036854775807)) (K ((r2++(str [32,109,111,100,32]))++r3))))))
def f67_m (a:TCongr):Option (ByteArray):=f67_c a some
def f67_sp:Spec:=f67_s.sp f67_m
noncomputable def f67_e:Env:=⟨fun k=>[].contains k,callsL [(119,f119_sp),(120,f120_sp)],fun X k s K=>none⟩
theorem f67_ok:OK (3) 67 (f67_s.sp f67_m):=
 fO (d:=2) (env:=f67_e) (callsL_sim (cc f119_ok (cc f120_ok cn))) (fn:=Tryz.f67) (mc:=@f67_c) (by intros;simp only [f67_m,f67_c,nn]) (locs:=[1])
def f30_s:FS (TGraph×TMods) (ByteArray) where
 sk:=⟨(.cons (.agg kG) (.cons (.agg kM) .nil)),[],0⟩
 a:=fun u=>((q8 u.1.1),(q3 u.1.2.1))
 n:=fun a=>(((w8 a.1),((w3 a.2),())),())
 o:=fun Z a r K=>K (.str r) ⟨[],0⟩
def f30_l5:LD ((List TCongr)×Int×(TGraph×TMods)) (Int×ByteArray) (ByteArray) where
 sk:=⟨[(2,.loc 0 0),(3,.loc 1 0),(5,.v (.ptr 0 0)),(14,.v (.lit cCongr)),(15,.v (.int .i64)),(16,.v (.int .i64))],[kG,kM],[.bld (.all 1),.byt],0,0⟩
 p:=fun u=>(u.1.2.1,u.1.2.2.1,((q8 u.2.1.1),(q3 u.2.1.2.1)))
 t:=fun u=>(u.1.2.2.2.1,u.2.2.2.1)
 n:=fun p t=>(((),(p.1,(p.2.1,(t.1,())))),(((w8 p.2.2.1),((w3 p.2.2.2),())),((),(t.2,()))))
 st:=fun Y p t ki ke=>cond (decide (t.1<p.2.1))
  (ask (V.inRange t.1 (List.length p.1)) (ask (V.inRange t.1 (List.length p.2.2.1.2.2.2.2.2.1)) (ask (decide (ByteArray.size (gx p.2.2.1.2.2.2.2.2.1 (Int.toNat t.1) dScalar).1+ByteArray.size (str [32,105,115,32])≤9223372036854775807)) ((f67_m (gx p.1 (Int.toNat t.1) dCongr)).bind fun r1=>
  ask (decide (ByteArray.size ((gx p.2.2.1.2.2.2.2.2.1 (Int.toNat t.1) dScalar).1++(str [32,105,115,32]))+ByteArray.size r1≤9223372036854775807)) (ask (decide (ByteArray.size (((gx p.2.2.1.2.2.2.2.2.1 (Int.toNat t.1) dScalar).1++(str [32,105,115,32]))++r1)+ByteArray.size (str [10])≤9223372036854775807)) ((f66_m (((((gx p.2.2.1.2.2.2.2.2.1 (Int.toNat t.1) dScalar).1++(str [32,105,115,32]))++r1)++(str [10])),t.2)).bind fun r2=>
  ki ((wi64 (t.1+(1:Int))),r2.2)))))))
  (ke (t.2))
 o:=fun Z p e K=>K (.exit 0) ⟨[(2,.loc 0 0),(3,.loc 1 0),(5,.v (.ptr 0 0))],[[.lit cInstr p.2.2.1.1,.int .i64 p.2.2.1.2.1,.int .i64 p.2.2.1.2.2.1,.int .i64 p.2.2.1.2.2.2.1,.lit cArray p.2.2.1.2.2.2.2.1,.lit cScalar p.2.2.1.2.2.2.2.2.1,.lit cArray p.2.2.1.2.2.2.2.2.2.1,.lit cItv p.2.2.1.2.2.2.2.2.2.2],[.bool p.2.2.2.1,.lit cCongr p.2.2.2.2.1,.lit cCongr p.2.2.2.2.2]],⟨[.bld (.all 1),.byt e],0⟩,0⟩
 pol:=⟨[2,3,5,14,15,16],[],[],[]⟩
 pe:=[(.exit 0,⟨[2,3,5],[],[],[]⟩)]
def f30_l10:LD ((List TCongr)×Int×TGraph) (Int×ByteArray) (ByteArray) where
 sk:=⟨[(2,.loc 0 0),(5,.v (.ptr 0 0)),(35,.v (.lit cCongr)),(36,.v (.int .i64)),(37,.v (.int .i64))],[kG],[.bld (.all 1),.byt],0,0⟩
 p:=fun u=>(u.1.2.1,u.1.2.2.1,(q8 u.2.1.1))
 t:=fun u=>(u.1.2.2.2.1,u.2.2.2.1)
 n:=fun p t=>(((),(p.1,(p.2.1,(t.1,())))),(((w8 p.2.2),()),((),(t.2,()))))
 st:=fun Y p t ki ke=>cond (decide (t.1<p.2.1))
  (ask (V.inRange t.1 (List.length p.1)) (ask (V.inRange t.1 (List.length p.2.2.2.2.2.2.2.2.1)) (ask (decide (ByteArray.size (gx p.2.2.2.2.2.2.2.2.1 (Int.toNat t.1) dArray).1+ByteArray.size (str [91,93,32,105,115,32])≤9223372036854775807)) ((f67_m (gx p.1 (Int.toNat t.1) dCongr)).bind fun r1=>
  ask (decide (ByteArray.size ((gx p.2.2.2.2.2.2.2.2.1 (Int.toNat t.1) dArray).1++(str [91,93,32,105,115,32]))+ByteArray.size r1≤9223372036854775807)) (ask (decide (ByteArray.size (((gx p.2.2.2.2.2.2.2.2.1 (Int.toNat t.1) dArray).1++(str [91,93,32,105,115,32]))++r1)+ByteArray.size (str [10])≤9223372036854775807)) ((f66_m (((((gx p.2.2.2.2.2.2.2.2.1 (Int.toNat t.1) dArray).1++(str [91,93,32,105,115,32]))++r1)++(str [10])),t.2)).bind fun r2=>
  ki ((wi64 (t.1+(1:Int))),r2.2)))))))
  (ke (t.2))
 o:=fun Z p e K=>K (.exit 2) ⟨[(5,.v (.ptr 0 0))],[],⟨[.bld (.all 1),.byt e],0⟩,0⟩
 pol:=⟨[2,5,35,36,37],[],[],[]⟩
 pe:=[(.exit 2,⟨[5],[],[],[]⟩)]
def f30_c {X:Type} (a:TGraph×TMods) (K:ByteArray→Option X):Option X:=
 cond (!a.2.1)
 (K (str [98,111,116,116,111,109,10]))
 ((loopAll (f30_l5.m (a.2.2.1,(nt (List.length a.2.2.1)),a)) (0,ByteArray.empty)).bind fun e1=>
 (loopAll (f30_l10.m (a.2.2.2,(nt (List.length a.2.2.2)),a.1)) (0,e1)).bind fun e2=>
 (f68_m e2).bind fun r3=>
 K r3)
def f30_m (a:TGraph×TMods):Option (ByteArray):=f30_c a some
def f30_sp:Spec:=f30_s.sp f30_m
noncomputable def f30_e:Env:=⟨fun k=>[].contains k,callsL [(67,f67_sp),(66,f66_sp),(68,f68_sp)],fun X k s K=>if k=5 then f30_l5.q X s K else if k=10 then f30_l10.q X s K else none⟩
noncomputable def f30_l5_c:Code:=subAt [1,1,1,0,1,0,0] (bodyOf Tryz.f30)
theorem f30_l5_ok (hc:SimCall C f30_e.call):LoopSim f30_e.loop (vc par C true [2,3,7,9] 56) (.loop f30_l5_c):=
 lO hc f30_l5 (by intros;simp only [f30_l5,LD.m,nn])
noncomputable def f30_l10_c:Code:=subAt [1,1,1,1,0,1,0,0] (bodyOf Tryz.f30)
theorem f30_l10_ok (hc:SimCall C f30_e.call):LoopSim f30_e.loop (vc par C true [2,3,7,9] 56) (.loop f30_l10_c):=
 lO hc f30_l10 (by intros;simp only [f30_l10,LD.m,nn])
theorem f30_ok:OK (4) 30 (f30_s.sp f30_m):=
 fO (d:=3) (env:=f30_e) (callsL_sim (cc f67_ok (cc f66_ok (cc f68_ok cn)))) (fn:=Tryz.f30) (mc:=@f30_c) (by intros;simp only [f30_m,f30_c,nn]) (locs:=[2,3,7,9]) (hl:=fun hc=>(lp_of (by kernel_rfl) (lp_cons (f30_l5_ok hc) (lp_cons (f30_l10_ok hc) lp_nil))))
def f13_s:FS (TGraph×TMods×Int) (TCongr) where
 sk:=⟨(.cons (.agg kG) (.cons (.agg kM) (.cons (.int .i64) .nil))),[],0⟩
 a:=fun u=>((q8 u.1.1),(q3 u.1.2.1),u.1.2.2.1)
 n:=fun a=>(((w8 a.1),((w3 a.2.1),(a.2.2,()))),())
 o:=fun Z a r K=>K (.agg [.bool r.1,.int .i64 r.2.1,.int .i64 r.2.2]) ⟨[],0⟩
def f13_c {X:Type} (a:TGraph×TMods×Int) (K:TCongr→Option X):Option X:=
 (f46_m (a.1,a.2.1)).bind fun r1=>
 (Rec47.m (a.2.2,a.1,a.2.1,r1.1,r1.2)).bind fun r2=>
 K r2.1
def f13_m (a:TGraph×TMods×Int):Option (TCongr):=f13_c a some
def f13_sp:Spec:=f13_s.sp f13_m
noncomputable def f13_e:Env:=⟨fun k=>[].contains k,callsL [(46,f46_sp),(47,f47_sp)],fun X k s K=>none⟩
theorem f13_ok:OK (166020696663385964545) 13 (f13_s.sp f13_m):=
 fO (d:=166020696663385964544) (env:=f13_e) (callsL_sim (cc f46_ok (cc f47_ok cn))) (fn:=Tryz.f13) (mc:=@f13_c) (by intros;simp only [f13_m,f13_c,nn]) (locs:=[3,4,6,1000011])
def f23_s:FS (TGraph×(List TMods)) (Bool) where
 sk:=⟨(.cons (.agg kG) (.cons (.lit cMods) .nil)),[],0⟩
 a:=fun u=>((q8 u.1.1),u.1.2.1)
 n:=fun a=>(((w8 a.1),(a.2,())),())
 o:=fun Z a r K=>K (.bool r) ⟨[],0⟩
def f23_l7:LD ((List TMods)×Int×(List Int)×Int×Int×TItv×TGraph) (Int) ((Unit) ⊕ (Unit)) where
 sk:=⟨[(1,.v (.lit cMods)),(2,.loc 0 0),(6,.v (.int .i64)),(25,.v (.lit (.int .i64))),(26,.v (.int .i64)),(27,.v (.int .i64)),(36,.v (.agg kI)),(37,.v (.int .i64))],[kG],[],0,0⟩
 p:=fun u=>(u.1.1,u.1.2.1,u.1.2.2.1,u.1.2.2.2.1,u.1.2.2.2.2.1,(u.1.2.2.2.2.2.1.1,u.1.2.2.2.2.2.1.2.1),(q8 u.2.1.1))
 t:=fun u=>u.1.2.2.2.2.2.2.1
 n:=fun p t=>((p.1,(p.2.1,(p.2.2.1,(p.2.2.2.1,(p.2.2.2.2.1,((p.2.2.2.2.2.1.1,(p.2.2.2.2.2.1.2,())),(t,()))))))),(((w8 p.2.2.2.2.2.2),()),()))
 st:=fun Y p t ki ke=>cond (decide (t<(2:Int)))
  (cond (decide (t=(0:Int)))
  (cond (decide ((0:Int)≤p.2.2.2.2.2.1.1))
  (ask (V.inRange p.2.1 (List.length p.1)) ((f16_m (p.2.2.2.2.2.2,(gx p.1 (Int.toNat p.2.1) dMods),p.2.1,t)).bind fun r1=>
  ask (V.inRange p.2.2.2.2.2.1.1 (List.length p.1)) ((f25_m (r1,(gx p.1 (Int.toNat p.2.2.2.2.2.1.1) dMods))).bind fun r2=>
  cond (!r2)
  (ke (.inl ()))
  (ki ((wi64 (t+(1:Int))))))))
  (ki ((wi64 (t+(1:Int))))))
  (cond (decide (t=(1:Int)))
  (cond (decide ((0:Int)≤p.2.2.2.2.2.1.2))
  (ask (V.inRange p.2.1 (List.length p.1)) ((f16_m (p.2.2.2.2.2.2,(gx p.1 (Int.toNat p.2.1) dMods),p.2.1,t)).bind fun r3=>
  ask (V.inRange p.2.2.2.2.2.1.2 (List.length p.1)) ((f25_m (r3,(gx p.1 (Int.toNat p.2.2.2.2.2.1.2) dMods))).bind fun r4=>
  cond (!r4)
  (ke (.inl ()))
  (ki ((wi64 (t+(1:Int))))))))
  (ki ((wi64 (t+(1:Int))))))
  (none)))
  (ke (.inr (())))
 o:=fun Z p e K=>Sum.elim (fun e=>K .ret ⟨[(4,.v (.bool false))],[],⟨[],0⟩,0⟩) (fun e=>K (.exit 2) ⟨[(1,.v (.lit cMods p.1)),(2,.loc 0 0),(25,.v (.lit (.int .i64) p.2.2.1)),(26,.v (.int .i64 p.2.2.2.1)),(27,.v (.int .i64 p.2.2.2.2.1))],[[.lit cInstr p.2.2.2.2.2.2.1,.int .i64 p.2.2.2.2.2.2.2.1,.int .i64 p.2.2.2.2.2.2.2.2.1,.int .i64 p.2.2.2.2.2.2.2.2.2.1,.lit cArray p.2.2.2.2.2.2.2.2.2.2.1,.lit cScalar p.2.2.2.2.2.2.2.2.2.2.2.1,.lit cArray p.2.2.2.2.2.2.2.2.2.2.2.2.1,.lit cItv p.2.2.2.2.2.2.2.2.2.2.2.2.2]],⟨[],0⟩,0⟩) e
 pol:=⟨[1,2,6,25,26,27,36,37],[],[],[]⟩
 pe:=[(.ret,⟨[4],[],[],[]⟩),(.exit 2,⟨[1,2,25,26,27],[],[],[]⟩)]
def f23_l4:LD ((List TMods)×(List Int)×Int×TGraph) (Int) ((Unit) ⊕ (Unit)) where
 sk:=⟨[(1,.v (.lit cMods)),(2,.loc 0 0),(25,.v (.lit (.int .i64))),(26,.v (.int .i64)),(27,.v (.int .i64))],[kG],[],0,0⟩
 p:=fun u=>(u.1.1,u.1.2.1,u.1.2.2.1,(q8 u.2.1.1))
 t:=fun u=>u.1.2.2.2.1
 n:=fun p t=>((p.1,(p.2.1,(p.2.2.1,(t,())))),(((w8 p.2.2.2),()),()))
 st:=fun Y p t ki ke=>cond (decide (t<p.2.2.1))
  (ask (V.inRange t (List.length p.2.1)) (ask (V.inRange (gx p.2.1 (Int.toNat t) (0:Int)) (List.length p.2.2.2.1)) ((loopAll (f23_l7.m (p.1,(gx p.2.1 (Int.toNat t) (0:Int)),p.2.1,p.2.2.1,t,(gx p.2.2.2.1 (Int.toNat (gx p.2.1 (Int.toNat t) (0:Int))) dInstr).2.2.2.2.2.2,p.2.2.2)) 0).bind fun e1=>
  Sum.elim (fun e2=>ke (.inl ()))
  (fun e3=>ki ((wi64 (t+(1:Int))))) e1)))
  (ke (.inr (())))
 o:=fun Z p e K=>Sum.elim (fun e=>K .ret ⟨[(4,.v (.bool false))],[],⟨[],0⟩,0⟩) (fun e=>K (.exit 0) ⟨[],[],⟨[],0⟩,0⟩) e
 pol:=⟨[1,2,25,26,27],[],[],[]⟩
 pe:=[(.ret,⟨[4],[],[],[]⟩),(.exit 0,⟨[],[],[],[]⟩)]
def f23_c {X:Type} (a:TGraph×(List TMods)) (K:Bool→Option X):Option X:=
 cond (!(decide ((nt (List.length a.2))=(nt (List.length a.1.1)))))
 (K false)
 ((f32_m a.1).bind fun r1=>
 ask (V.inRange 0 (List.length a.2)) ((f25_m ((true,r1),(gx a.2 0 dMods))).bind fun r2=>
 cond (!r2)
 (K false)
 ((f58_m a.1).bind fun r3=>
 (loopAll (f23_l4.m (a.2,r3,(nt (List.length r3)),a.1)) 0).bind fun e4=>
 Sum.elim (fun e5=>K false)
 (fun e6=>K true) e4)))
def f23_m (a:TGraph×(List TMods)):Option (Bool):=f23_c a some
def f23_sp:Spec:=f23_s.sp f23_m
noncomputable def f23_e:Env:=⟨fun k=>[].contains k,callsL [(32,f32_sp),(25,f25_sp),(58,f58_sp),(16,f16_sp)],fun X k s K=>if k=7 then f23_l7.q X s K else if k=4 then f23_l4.q X s K else none⟩
noncomputable def f23_l7_c:Code:=subAt [1,1,0,1,0,0,1,1,0,0,1,1,0,0] (bodyOf Tryz.f23)
theorem f23_l7_ok (hc:SimCall C f23_e.call):LoopSim f23_e.loop (vc par C true [2] 61) (.loop f23_l7_c):=
 lO hc f23_l7 (by intros;simp only [f23_l7,LD.m,nn])
noncomputable def f23_l4_c:Code:=subAt [1,1,0,1,0,0] (bodyOf Tryz.f23)
theorem f23_l4_ok (hc:SimCall C f23_e.call):LoopSim f23_e.loop (vc par C true [2] 61) (.loop f23_l4_c):=
 lO hc f23_l4 (by intros;simp only [f23_l4,LD.m,nn]) (hl:=(lp_of (by kernel_rfl) (lp_cons (f23_l7_ok hc) lp_nil)))
theorem f23_ok:OK (166020696663385964547) 23 (f23_s.sp f23_m):=
 fO (d:=166020696663385964546) (env:=f23_e) (callsL_sim (cc f32_ok (cc f25_ok (cc f58_ok (cc f16_ok cn))))) (fn:=Tryz.f23) (mc:=@f23_c) (by intros;simp only [f23_m,f23_c,nn]) (locs:=[2]) (hl:=fun hc=>(lp_of (by kernel_rfl) (lp_cons (f23_l4_ok hc) lp_nil)))
def f12_s:FS (Unit) (Bool) where
 sk:=⟨.nil,[],0⟩
 a:=fun u=>()
 n:=fun a=>((),())
 o:=fun Z a r K=>K (.bool r) ⟨[],0⟩
def f12_c {X:Type} (a:Unit) (K:Bool→Option X):Option X:=
 (f21_m (([(17,(0,(0,(0,(0,(0,(1,(-1)))))))),(1,(1,(0,(0,(2,(0,(2,(-1)))))))),(4,(2,(0,(1,(0,(1,(3,(-1)))))))),(13,(0,(2,(0,(0,(0,(4,(-1)))))))),(18,(0,(0,(0,(0,(0,(0,(-1))))))))]:List TInstr),(0,(3,(0,([],(([((str [120]),(3,0))]:List TScalar),([],([(0,0),(0,2)]:List TItv))))))))).bind fun r1=>
 cond (decide ((nt (List.length r1))=(5:Int)))
 (ask (V.inRange 0 (List.length r1)) (cond (gx r1 0 dMods).1
 (ask (V.inRange 0 (List.length r1)) (cond (decide ((nt (List.length (gx r1 0 dMods).2.1))=(1:Int)))
 (ask (V.inRange 0 (List.length r1)) (ask (V.inRange 0 (List.length (gx r1 0 dMods).2.1)) (cond (((gx (gx r1 0 dMods).2.1 0 dCongr).1==false)&&((decide ((gx (gx r1 0 dMods).2.1 0 dCongr).2.1=(2:Int)))&&((decide ((gx (gx r1 0 dMods).2.1 0 dCongr).2.2=(0:Int)))&&true)))
 (ask (V.inRange 0 (List.length r1)) ((f30_m ((([(17,(0,(0,(0,(0,(0,(1,(-1)))))))),(1,(1,(0,(0,(2,(0,(2,(-1)))))))),(4,(2,(0,(1,(0,(1,(3,(-1)))))))),(13,(0,(2,(0,(0,(0,(4,(-1)))))))),(18,(0,(0,(0,(0,(0,(0,(-1))))))))]:List TInstr),(0,(3,(0,([],(([((str [120]),(3,0))]:List TScalar),([],([(0,0),(0,2)]:List TItv)))))))),(gx r1 0 dMods))).bind fun r2=>
 cond (r2.toList==(str [120,32,105,115,32,48,32,109,111,100,32,50,10]).toList)
 (ask (V.inRange 0 (List.length r1)) ((f13_m ((([(17,(0,(0,(0,(0,(0,(1,(-1)))))))),(1,(1,(0,(0,(2,(0,(2,(-1)))))))),(4,(2,(0,(1,(0,(1,(3,(-1)))))))),(13,(0,(2,(0,(0,(0,(4,(-1)))))))),(18,(0,(0,(0,(0,(0,(0,(-1))))))))]:List TInstr),(0,(3,(0,([],(([((str [120]),(3,0))]:List TScalar),([],([(0,0),(0,2)]:List TItv)))))))),(gx r1 0 dMods),2)).bind fun r3=>
 cond ((r3.1==false)&&((decide (r3.2.1=(2:Int)))&&((decide (r3.2.2=(0:Int)))&&true)))
 ((f23_m ((([(17,(0,(0,(0,(0,(0,(1,(-1)))))))),(1,(1,(0,(0,(2,(0,(2,(-1)))))))),(4,(2,(0,(1,(0,(1,(3,(-1)))))))),(13,(0,(2,(0,(0,(0,(4,(-1)))))))),(18,(0,(0,(0,(0,(0,(0,(-1))))))))]:List TInstr),(0,(3,(0,([],(([((str [120]),(3,0))]:List TScalar),([],([(0,0),(0,2)]:List TItv)))))))),r1)).bind fun r4=>
 K r4)
 (K false)))
 (K false)))
 (K false))))
 (K false)))
 (K false)))
 (K false)
def f12_m (a:Unit):Option (Bool):=f12_c a some
def f12_sp:Spec:=f12_s.sp f12_m
noncomputable def f12_e:Env:=⟨fun k=>[].contains k,callsL [(45,f45_sp),(21,f21_sp),(30,f30_sp),(13,f13_sp),(23,f23_sp)],fun X k s K=>none⟩
theorem f12_ok:OK (166020696663385964548) 12 (f12_s.sp f12_m):=
 fO (d:=166020696663385964547) (env:=f12_e) (callsL_sim (cc f45_ok (cc f21_ok (cc f30_ok (cc f13_ok (cc f23_ok cn)))))) (fn:=Tryz.f12) (mc:=@f12_c) (by intros;simp only [f12_m,f12_c,nn])
def f111_s:FS (Int) (Int) where
 sk:=⟨(.cons (.int .i64) .nil),[],0⟩
 a:=fun u=>u.1.1
 n:=fun a=>((a,()),())
 o:=fun Z a r K=>K (.int .u64 r) ⟨[],0⟩
def f111_c {X:Type} (a:Int) (K:Int→Option X):Option X:=
 cond (decide (a<(0:Int)))
 (K (wu64 ((wu64 (wi64 ((0:Int)-(wi64 (a+(1:Int))))))+(1:Int))))
 (K (wu64 a))
def f111_m (a:Int):Option (Int):=f111_c a some
def f111_sp:Spec:=f111_s.sp f111_m
noncomputable def f111_e:Env:=⟨fun k=>[].contains k,callsL [],fun X k s K=>none⟩
theorem f111_ok:OK (1) 111 (f111_s.sp f111_m):=
 fO (d:=0) (env:=f111_e) (callsL_sim cn) (fn:=Tryz.f111) (mc:=@f111_c) (by intros;simp only [f111_m,f111_c,nn])
def f105_s:FS (Unit) (Unit) where
 sk:=⟨.nil,[],0⟩
 a:=fun u=>()
 n:=fun a=>((),())
 o:=fun Z a r K=>K (.agg [.bool true,.int .i64 0,.int .i64 0]) ⟨[],0⟩
def f105_c {X:Type} (a:Unit) (K:Unit→Option X):Option X:=
 K ()
def f105_m (a:Unit):Option (Unit):=f105_c a some
def f105_sp:Spec:=f105_s.sp f105_m
noncomputable def f105_e:Env:=⟨fun k=>[].contains k,callsL [],fun X k s K=>none⟩
theorem f105_ok:OK (1) 105 (f105_s.sp f105_m):=
 fO (d:=0) (env:=f105_e) (callsL_sim cn) (fn:=Tryz.f105) (mc:=@f105_c) (by intros;simp only [f105_m,f105_c,nn]) (locs:=[0])
def f123_s:FS (Int×Int×Bool) (TCongr) where
 sk:=⟨(.cons (.int .u64) (.cons (.int .u64) (.cons .bool .nil))),[],0⟩
 a:=fun u=>(u.1.1,u.1.2.1,u.1.2.2.1)
 n:=fun a=>((w3 a),())
 o:=fun Z a r K=>K (.agg [.bool r.1,.int .i64 r.2.1,.int .i64 r.2.2]) ⟨[],0⟩
def f123_r2:PD ((Int×Bool)×Bool×Int×Int) (Bool) where
 sk:=⟨[(1,.v (.int .u64)),(2,.v .bool),(6,.loc 0 0)],[kC],[],0,0⟩
 p:=fun u=>((u.1.1,u.1.2.1),u.2.1.1.1,u.2.1.1.2.1,u.2.1.1.2.2.1)
 n:=fun p=>((p.1.1,(p.1.2,())),(((w3 p.2),()),()))
 st:=fun Y p ke=>cond p.1.2
  (ke ((decide (p.1.1≤(2147483648:Int)))))
  (ke (false))
 o:=fun Z p e K=>K .normal ⟨[(1,.v (.int .u64 p.1.1)),(2,.v (.bool p.1.2)),(6,.loc 0 0),(14,.v (.bool e))],[[.bool p.2.1,.int .i64 p.2.2.1,.int .i64 p.2.2.2]],⟨[],0⟩,0⟩
 pol:=⟨[1,2,6],[],[],[]⟩
 pe:=[(.normal,⟨[1,2,6,14],[],[],[]⟩)]
def f123_r4:PD ((Int×Bool)×Bool×Int×Int) (Bool) where
 sk:=⟨[(1,.v (.int .u64)),(2,.v .bool),(6,.loc 0 0)],[kC],[],0,0⟩
 p:=fun u=>((u.1.1,u.1.2.1),u.2.1.1.1,u.2.1.1.2.1,u.2.1.1.2.2.1)
 n:=fun p=>((p.1.1,(p.1.2,())),(((w3 p.2),()),()))
 st:=fun Y p ke=>cond (!p.1.2)
  (ke ((decide (p.1.1≤(2147483647:Int)))))
  (ke (false))
 o:=fun Z p e K=>K .normal ⟨[(1,.v (.int .u64 p.1.1)),(6,.loc 0 0),(24,.v (.bool e))],[[.bool p.2.1,.int .i64 p.2.2.1,.int .i64 p.2.2.2]],⟨[],0⟩,0⟩
 pol:=⟨[1,2,6],[],[],[]⟩
 pe:=[(.normal,⟨[1,6,24],[],[],[]⟩)]
def f123_r8:PD (Int×Int×Bool×Bool×Int×Int) (Bool) where
 sk:=⟨[(0,.v (.int .u64)),(1,.v (.int .u64)),(2,.v .bool),(6,.loc 0 0)],[kC],[],0,0⟩
 p:=fun u=>(u.1.1,u.1.2.1,u.1.2.2.1,u.2.1.1.1,u.2.1.1.2.1,u.2.1.1.2.2.1)
 n:=fun p=>((p.1,(p.2.1,(p.2.2.1,()))),(((w3 p.2.2.2),()),()))
 st:=fun Y p ke=>cond p.2.2.1
  (ke ((!(decide (p.2.1=(0:Int))))))
  (ke (false))
 o:=fun Z p e K=>K .normal ⟨[(0,.v (.int .u64 p.1)),(1,.v (.int .u64 p.2.1)),(6,.loc 0 0),(36,.v (.bool e))],[[.bool p.2.2.2.1,.int .i64 p.2.2.2.2.1,.int .i64 p.2.2.2.2.2]],⟨[],0⟩,0⟩
 pol:=⟨[0,1,2,6],[],[],[]⟩
 pe:=[(.normal,⟨[0,1,6,36],[],[],[]⟩)]
def f123_c9:PD (Int×Int×Bool×Bool×Int×Int) (Int) where
 sk:=⟨[(0,.v (.int .u64)),(1,.v (.int .u64)),(6,.loc 0 0),(36,.v .bool)],[kC],[],0,0⟩
 p:=fun u=>(u.1.1,u.1.2.1,u.1.2.2.1,u.2.1.1.1,u.2.1.1.2.1,u.2.1.1.2.2.1)
 n:=fun p=>((p.1,(p.2.1,(p.2.2.1,()))),(((w3 p.2.2.2),()),()))
 st:=fun Y p ke=>cond p.2.2.1
  (ke ((wu64 (p.1-p.2.1))))
  (ke (p.2.1))
 o:=fun Z p e K=>K .normal ⟨[(0,.v (.int .u64 p.1)),(1,.v (.int .u64 e)),(6,.loc 0 0)],[[.bool p.2.2.2.1,.int .i64 p.2.2.2.2.1,.int .i64 p.2.2.2.2.2]],⟨[],0⟩,0⟩
 pol:=⟨[0,1,6,36],[],[],[]⟩
 pe:=[(.normal,⟨[0,1,6],[],[],[]⟩)]
def f123_c12:PD (Int×Int×Bool×Bool×Int×Int) ((List Int)) where
 sk:=⟨[(0,.v (.int .u64)),(1,.v (.int .u64)),(6,.loc 0 0),(7,.v .nils),(41,.v .bool)],[kC],[],0,0⟩
 p:=fun u=>(u.1.1,u.1.2.1,u.1.2.2.2.1,u.2.1.1.1,u.2.1.1.2.1,u.2.1.1.2.2.1)
 n:=fun p=>((p.1,(p.2.1,((),(p.2.2.1,())))),(((w3 p.2.2.2),()),()))
 st:=fun Y p ke=>cond p.2.2.1
  (ask (decide ((List.length ([(wi64 p.2.1)]:List Int)) * 8≤70368744177664)&&decide ((List.length ([(wi64 p.2.1)]:List Int))<9223372036854775808)) (ke (([(wi64 p.2.1)]:List Int))))
  (ke ([]))
 o:=fun Z p e K=>K .normal ⟨[(0,.v (.int .u64 p.1)),(1,.v (.int .u64 p.2.1)),(6,.loc 0 0),(7,.v (.all 0))],[[.bool p.2.2.2.1,.int .i64 p.2.2.2.2.1,.int .i64 p.2.2.2.2.2]],⟨[.cells (.int .i64) e],0⟩,0⟩
 pol:=⟨[0,1,6,7,41],[],[],[]⟩
 pe:=[(.normal,⟨[0,1,6,7],[(7,(.own (.int .i64)))],[],[]⟩)]
def f123_c14:PD (Int×Int×Bool×Bool×Int×Int×(List Int)) ((List Int)) where
 sk:=⟨[(0,.v (.int .u64)),(1,.v (.int .u64)),(6,.loc 0 0),(7,.v (.all 0)),(50,.v .bool)],[kC],[.cells (.int .i64)],0,0⟩
 p:=fun u=>(u.1.1,u.1.2.1,u.1.2.2.2.1,u.2.1.1.1,u.2.1.1.2.1,u.2.1.1.2.2.1,u.2.2.1)
 n:=fun p=>((p.1,(p.2.1,((),(p.2.2.1,())))),(((p.2.2.2.1,(p.2.2.2.2.1,(p.2.2.2.2.2.1,()))),()),(p.2.2.2.2.2.2,())))
 st:=fun Y p ke=>cond p.2.2.1
  (ask (decide (((List.length p.2.2.2.2.2.2)+(List.length ([(wi64 ((0:Int)-(wi64 (wu64 (p.1-p.2.1)))))]:List Int))) * 8≤70368744177664)&&decide (((List.length p.2.2.2.2.2.2)+(List.length ([(wi64 ((0:Int)-(wi64 (wu64 (p.1-p.2.1)))))]:List Int)))<9223372036854775808)) (ke ((p.2.2.2.2.2.2++([(wi64 ((0:Int)-(wi64 (wu64 (p.1-p.2.1)))))]:List Int)))))
  (ke (p.2.2.2.2.2.2))
 o:=fun Z p e K=>K .normal ⟨[(0,.v (.int .u64 p.1)),(1,.v (.int .u64 p.2.1)),(6,.loc 0 0),(7,.v (.all 0))],[[.bool p.2.2.2.1,.int .i64 p.2.2.2.2.1,.int .i64 p.2.2.2.2.2.1]],⟨[.cells (.int .i64) e],0⟩,0⟩
 pol:=⟨[0,1,6,7,50],[],[],[]⟩
 pe:=[(.normal,⟨[0,1,6,7],[],[],[]⟩)]
def f123_r15:PD (Int×Int×Bool×Int×Int×(List Int)) (Bool) where
 sk:=⟨[(0,.v (.int .u64)),(1,.v (.int .u64)),(6,.loc 0 0),(7,.v (.all 0))],[kC],[.cells (.int .i64)],0,0⟩
 p:=fun u=>(u.1.1,u.1.2.1,u.2.1.1.1,u.2.1.1.2.1,u.2.1.1.2.2.1,u.2.2.1)
 n:=fun p=>((p.1,(p.2.1,((),()))),(((p.2.2.1,(p.2.2.2.1,(p.2.2.2.2.1,()))),()),(p.2.2.2.2.2,())))
 st:=fun Y p ke=>cond (decide ((nt (List.length p.2.2.2.2.2))=(1:Int)))
  (ask (V.inRange 0 (List.length p.2.2.2.2.2)) (cond (decide ((0:Int)≤(gx p.2.2.2.2.2 0 (0:Int))))
  (ask (V.inRange 0 (List.length p.2.2.2.2.2)) (ke ((decide (p.1≤(wu64 ((2147483647:Int)-(wu64 (gx p.2.2.2.2.2 0 (0:Int))))))))))
  (ke (false))))
  (ke (false))
 o:=fun Z p e K=>K .normal ⟨[(0,.v (.int .u64 p.1)),(1,.v (.int .u64 p.2.1)),(6,.loc 0 0),(7,.v (.all 0)),(76,.v (.bool e))],[[.bool p.2.2.1,.int .i64 p.2.2.2.1,.int .i64 p.2.2.2.2.1]],⟨[.cells (.int .i64) p.2.2.2.2.2],0⟩,0⟩
 pol:=⟨[0,1,6,7],[],[],[]⟩
 pe:=[(.normal,⟨[0,1,6,7,76],[],[],[]⟩)]
def f123_c16:PD (Int×Int×Bool×Bool×Int×Int×(List Int)) ((List Int)) where
 sk:=⟨[(0,.v (.int .u64)),(1,.v (.int .u64)),(6,.loc 0 0),(7,.v (.all 0)),(76,.v .bool)],[kC],[.cells (.int .i64)],0,0⟩
 p:=fun u=>(u.1.1,u.1.2.1,u.1.2.2.2.1,u.2.1.1.1,u.2.1.1.2.1,u.2.1.1.2.2.1,u.2.2.1)
 n:=fun p=>((p.1,(p.2.1,((),(p.2.2.1,())))),(((p.2.2.2.1,(p.2.2.2.2.1,(p.2.2.2.2.2.1,()))),()),(p.2.2.2.2.2.2,())))
 st:=fun Y p ke=>cond p.2.2.1
  (ask (decide (((List.length p.2.2.2.2.2.2)+(List.length ([0]:List Int))) * 8≤70368744177664)&&decide (((List.length p.2.2.2.2.2.2)+(List.length ([0]:List Int)))<9223372036854775808)) (ke ((p.2.2.2.2.2.2++([0]:List Int)))))
  (ke (p.2.2.2.2.2.2))
 o:=fun Z p e K=>K .normal ⟨[(0,.v (.int .u64 p.1)),(1,.v (.int .u64 p.2.1)),(6,.loc 0 0),(7,.v (.all 0))],[[.bool p.2.2.2.1,.int .i64 p.2.2.2.2.1,.int .i64 p.2.2.2.2.2.1]],⟨[.cells (.int .i64) e],0⟩,0⟩
 pol:=⟨[0,1,6,7,76],[],[],[]⟩
 pe:=[(.normal,⟨[0,1,6,7],[],[],[]⟩)]
def f123_r17:PD (Int×Int×Bool×Int×Int×(List Int)) (Bool) where
 sk:=⟨[(0,.v (.int .u64)),(1,.v (.int .u64)),(6,.loc 0 0),(7,.v (.all 0))],[kC],[.cells (.int .i64)],0,0⟩
 p:=fun u=>(u.1.1,u.1.2.1,u.2.1.1.1,u.2.1.1.2.1,u.2.1.1.2.2.1,u.2.2.1)
 n:=fun p=>((p.1,(p.2.1,((),()))),(((p.2.2.1,(p.2.2.2.1,(p.2.2.2.2.1,()))),()),(p.2.2.2.2.2,())))
 st:=fun Y p ke=>cond (decide ((nt (List.length p.2.2.2.2.2))=(1:Int)))
  (ask (V.inRange 0 (List.length p.2.2.2.2.2)) (cond (decide ((gx p.2.2.2.2.2 0 (0:Int))<(0:Int)))
  (ask (V.inRange 0 (List.length p.2.2.2.2.2)) ((f111_m (gx p.2.2.2.2.2 0 (0:Int))).bind fun r1=>
  ke ((decide (p.1≤(wu64 ((2147483648:Int)-r1)))))))
  (ke (false))))
  (ke (false))
 o:=fun Z p e K=>K .normal ⟨[(0,.v (.int .u64 p.1)),(1,.v (.int .u64 p.2.1)),(6,.loc 0 0),(7,.v (.all 0)),(97,.v (.bool e))],[[.bool p.2.2.1,.int .i64 p.2.2.2.1,.int .i64 p.2.2.2.2.1]],⟨[.cells (.int .i64) p.2.2.2.2.2],0⟩,0⟩
 pol:=⟨[0,1,6,7],[],[],[]⟩
 pe:=[(.normal,⟨[0,1,6,7,97],[],[],[]⟩)]
def f123_c18:PD (Int×Int×Bool×Bool×Int×Int×(List Int)) ((List Int)) where
 sk:=⟨[(0,.v (.int .u64)),(1,.v (.int .u64)),(6,.loc 0 0),(7,.v (.all 0)),(97,.v .bool)],[kC],[.cells (.int .i64)],0,0⟩
 p:=fun u=>(u.1.1,u.1.2.1,u.1.2.2.2.1,u.2.1.1.1,u.2.1.1.2.1,u.2.1.1.2.2.1,u.2.2.1)
 n:=fun p=>((p.1,(p.2.1,((),(p.2.2.1,())))),(((p.2.2.2.1,(p.2.2.2.2.1,(p.2.2.2.2.2.1,()))),()),(p.2.2.2.2.2.2,())))
 st:=fun Y p ke=>cond p.2.2.1
  (ask (decide (((List.length p.2.2.2.2.2.2)+(List.length ([0]:List Int))) * 8≤70368744177664)&&decide (((List.length p.2.2.2.2.2.2)+(List.length ([0]:List Int)))<9223372036854775808)) (ke ((p.2.2.2.2.2.2++([0]:List Int)))))
  (ke (p.2.2.2.2.2.2))
 o:=fun Z p e K=>K .normal ⟨[(0,.v (.int .u64 p.1)),(1,.v (.int .u64 p.2.1)),(6,.loc 0 0),(7,.v (.all 0))],[[.bool p.2.2.2.1,.int .i64 p.2.2.2.2.1,.int .i64 p.2.2.2.2.2.1]],⟨[.cells (.int .i64) e],0⟩,0⟩
 pol:=⟨[0,1,6,7,97],[],[],[]⟩
 pe:=[(.normal,⟨[0,1,6,7],[],[],[]⟩)]
def f123_c {X:Type} (a:Int×Int×Bool) (K:TCongr→Option X):Option X:=
 cond (decide (a.1=(0:Int)))
 ((f123_r2.m (a.2,false,0,0)).bind fun e1=>
 cond e1
 (K (false,(0,(wi64 ((0:Int)-(wi64 a.2.1))))))
 ((f123_r4.m (a.2,false,0,0)).bind fun e2=>
 cond e2
 (K (false,(0,(wi64 a.2.1))))
 (K (true,(0,0)))))
 (cond (decide (a.1=(0:Int)))
 (none)
 ((f123_r8.m (a.1,(Int.tmod a.2.1 a.1),a.2.2,false,0,0)).bind fun e3=>
 (f123_c9.m (a.1,(Int.tmod a.2.1 a.1),e3,false,0,0)).bind fun e4=>
 (f123_c12.m (a.1,e4,(decide (e4≤(2147483647:Int))),false,0,0)).bind fun e5=>
 (f123_c14.m (a.1,e4,(decide ((wu64 (a.1-e4))≤(2147483648:Int))),false,0,0,e5)).bind fun e6=>
 (f123_r15.m (a.1,e4,false,0,0,e6)).bind fun e7=>
 (f123_c16.m (a.1,e4,e7,false,0,0,e6)).bind fun e8=>
 (f123_r17.m (a.1,e4,false,0,0,e8)).bind fun e9=>
 (f123_c18.m (a.1,e4,e9,false,0,0,e8)).bind fun e10=>
 cond (decide ((nt (List.length e10))=(0:Int)))
 (K (true,(0,0)))
 (cond (decide ((nt (List.length e10))=(1:Int)))
 (ask (V.inRange 0 (List.length e10)) (K (false,(0,(gx e10 0 (0:Int))))))
 (K (false,((wi64 a.1),(wi64 e4)))))))
def f123_m (a:Int×Int×Bool):Option (TCongr):=f123_c a some
def f123_sp:Spec:=f123_s.sp f123_m
noncomputable def f123_e:Env:=⟨fun k=>[1000009,1000012,1000014,1000016,1000018,2000002,2000004,2000008,2000015,2000017].contains k,callsL [(105,f105_sp),(111,f111_sp)],fun X k s K=>if k=2000002 then f123_r2.q X s K else if k=2000004 then f123_r4.q X s K else if k=2000008 then f123_r8.q X s K else if k=1000009 then f123_c9.q X s K else if k=1000012 then f123_c12.q X s K else if k=1000014 then f123_c14.q X s K else if k=2000015 then f123_r15.q X s K else if k=1000016 then f123_c16.q X s K else if k=2000017 then f123_r17.q X s K else if k=1000018 then f123_c18.q X s K else none⟩
noncomputable def f123_r2_c:Code:=subAt [1,0,1,0,0,0] (bodyOf Tryz.f123)
theorem f123_r2_ok (hc:SimCall C f123_e.call):LoopSim f123_e.loop (vc par C true [6] 117) f123_r2_c:=
 pO (env0:=⟨offJ f123_e.join 2000002,f123_e.call,f123_e.loop⟩) hc rfl f123_r2 (by intros;simp only [f123_r2,PD.m,nn])
noncomputable def f123_r4_c:Code:=subAt [1,0,1,0,1,0,0] (bodyOf Tryz.f123)
theorem f123_r4_ok (hc:SimCall C f123_e.call):LoopSim f123_e.loop (vc par C true [6] 117) f123_r4_c:=
 pO (env0:=⟨offJ f123_e.join 2000004,f123_e.call,f123_e.loop⟩) hc rfl f123_r4 (by intros;simp only [f123_r4,PD.m,nn])
noncomputable def f123_r8_c:Code:=subAt [1,1,1,0,0] (bodyOf Tryz.f123)
theorem f123_r8_ok (hc:SimCall C f123_e.call):LoopSim f123_e.loop (vc par C true [6] 117) f123_r8_c:=
 pO (env0:=⟨offJ f123_e.join 2000008,f123_e.call,f123_e.loop⟩) hc rfl f123_r8 (by intros;simp only [f123_r8,PD.m,nn])
noncomputable def f123_c9_c:Code:=subAt [1,1,1,0,1] (bodyOf Tryz.f123)
theorem f123_c9_ok (hc:SimCall C f123_e.call):LoopSim f123_e.loop (vc par C true [6] 117) f123_c9_c:=
 pO (env0:=⟨offJ f123_e.join 1000009,f123_e.call,f123_e.loop⟩) hc rfl f123_c9 (by intros;simp only [f123_c9,PD.m,nn])
noncomputable def f123_c12_c:Code:=subAt [1,1,1,1,1,0,1] (bodyOf Tryz.f123)
theorem f123_c12_ok (hc:SimCall C f123_e.call):LoopSim f123_e.loop (vc par C true [6] 117) f123_c12_c:=
 pO (env0:=⟨offJ f123_e.join 1000012,f123_e.call,f123_e.loop⟩) hc rfl f123_c12 (by intros;simp only [f123_c12,PD.m,nn])
noncomputable def f123_c14_c:Code:=subAt [1,1,1,1,1,1,0,1] (bodyOf Tryz.f123)
theorem f123_c14_ok (hc:SimCall C f123_e.call):LoopSim f123_e.loop (vc par C true [6] 117) f123_c14_c:=
 pO (env0:=⟨offJ f123_e.join 1000014,f123_e.call,f123_e.loop⟩) hc rfl f123_c14 (by intros;simp only [f123_c14,PD.m,nn])
noncomputable def f123_r15_c:Code:=subAt [1,1,1,1,1,1,1,0,0] (bodyOf Tryz.f123)
theorem f123_r15_ok (hc:SimCall C f123_e.call):LoopSim f123_e.loop (vc par C true [6] 117) f123_r15_c:=
 pO (env0:=⟨offJ f123_e.join 2000015,f123_e.call,f123_e.loop⟩) hc rfl f123_r15 (by intros;simp only [f123_r15,PD.m,nn])
noncomputable def f123_c16_c:Code:=subAt [1,1,1,1,1,1,1,0,1] (bodyOf Tryz.f123)
theorem f123_c16_ok (hc:SimCall C f123_e.call):LoopSim f123_e.loop (vc par C true [6] 117) f123_c16_c:=
 pO (env0:=⟨offJ f123_e.join 1000016,f123_e.call,f123_e.loop⟩) hc rfl f123_c16 (by intros;simp only [f123_c16,PD.m,nn])
noncomputable def f123_r17_c:Code:=subAt [1,1,1,1,1,1,1,1,0,0] (bodyOf Tryz.f123)
theorem f123_r17_ok (hc:SimCall C f123_e.call):LoopSim f123_e.loop (vc par C true [6] 117) f123_r17_c:=
 pO (env0:=⟨offJ f123_e.join 2000017,f123_e.call,f123_e.loop⟩) hc rfl f123_r17 (by intros;simp only [f123_r17,PD.m,nn])
noncomputable def f123_c18_c:Code:=subAt [1,1,1,1,1,1,1,1,0,1] (bodyOf Tryz.f123)
theorem f123_c18_ok (hc:SimCall C f123_e.call):LoopSim f123_e.loop (vc par C true [6] 117) f123_c18_c:=
 pO (env0:=⟨offJ f123_e.join 1000018,f123_e.call,f123_e.loop⟩) hc rfl f123_c18 (by intros;simp only [f123_c18,PD.m,nn])
theorem f123_ok:OK (2) 123 (f123_s.sp f123_m):=
 fO (d:=1) (env:=f123_e) (callsL_sim (cc f105_ok (cc f111_ok cn))) (fn:=Tryz.f123) (mc:=@f123_c) (by intros;simp only [f123_m,f123_c,nn]) (locs:=[6]) (hl:=fun hc=>(lp_of (by kernel_rfl) (lp_cons (f123_r2_ok hc) (lp_cons (f123_r4_ok hc) (lp_cons (f123_r8_ok hc) (lp_cons (f123_c9_ok hc) (lp_cons (f123_c12_ok hc) (lp_cons (f123_c14_ok hc) (lp_cons (f123_r15_ok hc) (lp_cons (f123_c16_ok hc) (lp_cons (f123_r17_ok hc) (lp_cons (f123_c18_ok hc) lp_nil))))))))))))
def f71_s:FS (Int×Int) (TCongr) where
 sk:=⟨kI,[],0⟩
 a:=fun u=>(u.1.1,u.1.2.1)
 n:=fun a=>((a.1,(a.2,())),())
 o:=fun Z a r K=>K (.agg [.bool r.1,.int .i64 r.2.1,.int .i64 r.2.2]) ⟨[],0⟩
def f71_c {X:Type} (a:Int×Int) (K:TCongr→Option X):Option X:=
 (f111_m a.1).bind fun r1=>
 (f111_m a.2).bind fun r2=>
 (f123_m (r1,r2,(decide (a.2<(0:Int))))).bind fun r3=>
 K r3
def f71_m (a:Int×Int):Option (TCongr):=f71_c a some
def f71_sp:Spec:=f71_s.sp f71_m
noncomputable def f71_e:Env:=⟨fun k=>[].contains k,callsL [(111,f111_sp),(123,f123_sp)],fun X k s K=>none⟩
theorem f71_ok:OK (3) 71 (f71_s.sp f71_m):=
 fO (d:=2) (env:=f71_e) (callsL_sim (cc f111_ok (cc f123_ok cn))) (fn:=Tryz.f71) (mc:=@f71_c) (by intros;simp only [f71_m,f71_c,nn]) (locs:=[4])
def f82_s:FS (TCongr) (Bool) where
 sk:=⟨(.cons (.agg kC) .nil),[],0⟩
 a:=fun u=>(q3 u.1.1)
 n:=fun a=>(((w3 a),()),())
 o:=fun Z a r K=>K (.bool r) ⟨[],0⟩
def f82_c {X:Type} (a:TCongr) (K:Bool→Option X):Option X:=
 cond a.1
 (cond (decide (a.2.1=(0:Int)))
 (K (decide (a.2.2=(0:Int))))
 (K false))
 (cond (decide ((0:Int)≤a.2.1))
 ((f71_m (a.2.1,a.2.2)).bind fun r1=>
 K ((a.1==r1.1)&&((decide (a.2.1=r1.2.1))&&((decide (a.2.2=r1.2.2))&&true))))
 (K false))
def f82_m (a:TCongr):Option (Bool):=f82_c a some
def f82_sp:Spec:=f82_s.sp f82_m
noncomputable def f82_e:Env:=⟨fun k=>[].contains k,callsL [(71,f71_sp)],fun X k s K=>none⟩
theorem f82_ok:OK (4) 82 (f82_s.sp f82_m):=
 fO (d:=3) (env:=f82_e) (callsL_sim (cc f71_ok cn)) (fn:=Tryz.f82) (mc:=@f82_c) (by intros;simp only [f82_m,f82_c,nn]) (locs:=[1])
def f44_s:FS ((List TCongr)×Int) (Bool) where
 sk:=⟨(.cons (.lit cCongr) (.cons (.int .i64) .nil)),[],0⟩
 a:=fun u=>(u.1.1,u.1.2.1)
 n:=fun a=>((a.1,(a.2,())),())
 o:=fun Z a r K=>K (.bool r) ⟨[],0⟩
def f44_l4:LD (((List TCongr)×Int)) (Int) ((Unit) ⊕ (Unit)) where
 sk:=⟨[(0,.v (.lit cCongr)),(1,.v (.int .i64)),(5,.v (.int .i64))],[],[],0,0⟩
 p:=fun u=>(u.1.1,u.1.2.1)
 t:=fun u=>u.1.2.2.1
 n:=fun p t=>((p.1,(p.2,(t,()))),((),()))
 st:=fun Y p t ki ke=>cond (decide (t<p.2))
  (ask (V.inRange t (List.length p.1)) (cond (gx p.1 (Int.toNat t) dCongr).1
  (ke (.inl ()))
  (ask (V.inRange t (List.length p.1)) ((f82_m (gx p.1 (Int.toNat t) dCongr)).bind fun r1=>
  cond (!r1)
  (ke (.inl ()))
  (ki ((wi64 (t+(1:Int)))))))))
  (ke (.inr (())))
 o:=fun Z p e K=>Sum.elim (fun e=>K .ret ⟨[(4,.v (.bool false))],[],⟨[],0⟩,0⟩) (fun e=>K (.exit 0) ⟨[],[],⟨[],0⟩,0⟩) e
 pol:=⟨[0,1,5],[],[],[]⟩
 pe:=[(.ret,⟨[4],[],[],[]⟩),(.exit 0,⟨[],[],[],[]⟩)]
def f44_c {X:Type} (a:(List TCongr)×Int) (K:Bool→Option X):Option X:=
 cond (!(decide ((nt (List.length a.1))=a.2)))
 (K false)
 ((loopAll (f44_l4.m a) 0).bind fun e1=>
 Sum.elim (fun e2=>K false)
 (fun e3=>K true) e1)
def f44_m (a:(List TCongr)×Int):Option (Bool):=f44_c a some
def f44_sp:Spec:=f44_s.sp f44_m
noncomputable def f44_e:Env:=⟨fun k=>[].contains k,callsL [(82,f82_sp)],fun X k s K=>if k=4 then f44_l4.q X s K else none⟩
noncomputable def f44_l4_c:Code:=subAt [1,1,0,1,0,0] (bodyOf Tryz.f44)
theorem f44_l4_ok (hc:SimCall C f44_e.call):LoopSim f44_e.loop (vc par C true [] 28) (.loop f44_l4_c):=
 lO hc f44_l4 (by intros;simp only [f44_l4,LD.m,nn])
theorem f44_ok:OK (5) 44 (f44_s.sp f44_m):=
 fO (d:=4) (env:=f44_e) (callsL_sim (cc f82_ok cn)) (fn:=Tryz.f44) (mc:=@f44_c) (by intros;simp only [f44_m,f44_c,nn]) (hl:=fun hc=>(lp_of (by kernel_rfl) (lp_cons (f44_l4_ok hc) lp_nil)))
def f11_s:FS (TGraph×TMods) (Bool) where
 sk:=⟨(.cons (.agg kG) (.cons (.agg kM) .nil)),[],0⟩
 a:=fun u=>((q8 u.1.1),(q3 u.1.2.1))
 n:=fun a=>(((w8 a.1),((w3 a.2),())),())
 o:=fun Z a r K=>K (.bool r) ⟨[],0⟩
def f11_c {X:Type} (a:TGraph×TMods) (K:Bool→Option X):Option X:=
 cond (!a.2.1)
 (cond (decide ((nt (List.length a.2.2.1))=(0:Int)))
 (K (decide ((nt (List.length a.2.2.2))=(0:Int))))
 (K false))
 ((f44_m (a.2.2.1,(nt (List.length a.1.2.2.2.2.2.1)))).bind fun r1=>
 cond r1
 ((f44_m (a.2.2.2,(nt (List.length a.1.2.2.2.2.2.2.1)))).bind fun r2=>
 K r2)
 (K false))
def f11_m (a:TGraph×TMods):Option (Bool):=f11_c a some
def f11_sp:Spec:=f11_s.sp f11_m
noncomputable def f11_e:Env:=⟨fun k=>[].contains k,callsL [(44,f44_sp)],fun X k s K=>none⟩
theorem f11_ok:OK (6) 11 (f11_s.sp f11_m):=
 fO (d:=5) (env:=f11_e) (callsL_sim (cc f44_ok cn)) (fn:=Tryz.f11) (mc:=@f11_c) (by intros;simp only [f11_m,f11_c,nn]) (locs:=[2,3])
def f20_s:FS (TGraph×(List TMods)) (Bool) where
 sk:=⟨(.cons (.agg kG) (.cons (.lit cMods) .nil)),[],0⟩
 a:=fun u=>((q8 u.1.1),u.1.2.1)
 n:=fun a=>(((w8 a.1),(a.2,())),())
 o:=fun Z a r K=>K (.bool r) ⟨[],0⟩
def f20_l2:LD ((List TMods)×TGraph) (Int) ((Unit) ⊕ (Unit)) where
 sk:=⟨[(1,.v (.lit cMods)),(2,.loc 0 0),(5,.v (.int .i64))],[kG],[],0,0⟩
 p:=fun u=>(u.1.1,(q8 u.2.1.1))
 t:=fun u=>u.1.2.1
 n:=fun p t=>((p.1,(t,())),(((w8 p.2),()),()))
 st:=fun Y p t ki ke=>cond (decide (t<(nt (List.length p.1))))
  (ask (V.inRange t (List.length p.1)) ((f11_m (p.2,(gx p.1 (Int.toNat t) dMods))).bind fun r1=>
  cond (!r1)
  (ke (.inl ()))
  (ki ((wi64 (t+(1:Int)))))))
  (ke (.inr (())))
 o:=fun Z p e K=>Sum.elim (fun e=>K .ret ⟨[(4,.v (.bool false))],[],⟨[],0⟩,0⟩) (fun e=>K (.exit 0) ⟨[],[],⟨[],0⟩,0⟩) e
 pol:=⟨[1,2,5],[],[],[]⟩
 pe:=[(.ret,⟨[4],[],[],[]⟩),(.exit 0,⟨[],[],[],[]⟩)]
def f20_c {X:Type} (a:TGraph×(List TMods)) (K:Bool→Option X):Option X:=
 (loopAll (f20_l2.m (a.2,a.1)) 0).bind fun e1=>
 Sum.elim (fun e2=>K false)
 (fun e3=>K true) e1
def f20_m (a:TGraph×(List TMods)):Option (Bool):=f20_c a some
def f20_sp:Spec:=f20_s.sp f20_m
noncomputable def f20_e:Env:=⟨fun k=>[].contains k,callsL [(11,f11_sp)],fun X k s K=>if k=2 then f20_l2.q X s K else none⟩
noncomputable def f20_l2_c:Code:=subAt [1,0,1,0,0] (bodyOf Tryz.f20)
theorem f20_l2_ok (hc:SimCall C f20_e.call):LoopSim f20_e.loop (vc par C true [2] 19) (.loop f20_l2_c):=
 lO hc f20_l2 (by intros;simp only [f20_l2,LD.m,nn])
theorem f20_ok:OK (7) 20 (f20_s.sp f20_m):=
 fO (d:=6) (env:=f20_e) (callsL_sim (cc f11_ok cn)) (fn:=Tryz.f20) (mc:=@f20_c) (by intros;simp only [f20_m,f20_c,nn]) (locs:=[2]) (hl:=fun hc=>(lp_of (by kernel_rfl) (lp_cons (f20_l2_ok hc) lp_nil)))
def f23v1_s:FS (TGraph×(List TMods)) (Bool) where
 sk:=⟨(.cons (.agg kG) (.cons (.all 0) .nil)),[.cells cMods],0⟩
 a:=fun u=>((q8 u.1.1),u.2.1)
 n:=fun a=>(((w8 a.1),((),())),(a.2,()))
 o:=fun Z a r K=>K (.bool r) ⟨[.cells cMods a.2],0⟩
def f23v1_l7:LD (Int×(List Int)×Int×Int×TItv×(TGraph×(List TMods))) (Int) ((Unit) ⊕ (Unit)) where
 sk:=⟨[(1,.v (.all 0)),(2,.loc 0 0),(6,.v (.int .i64)),(25,.v (.lit (.int .i64))),(26,.v (.int .i64)),(27,.v (.int .i64)),(36,.v (.agg kI)),(37,.v (.int .i64))],[kG],[.cells cMods],0,1⟩
 p:=fun u=>(u.1.2.1,u.1.2.2.1,u.1.2.2.2.1,u.1.2.2.2.2.1,(u.1.2.2.2.2.2.1.1,u.1.2.2.2.2.2.1.2.1),((q8 u.2.1.1),u.2.2.1))
 t:=fun u=>u.1.2.2.2.2.2.2.1
 n:=fun p t=>(((),(p.1,(p.2.1,(p.2.2.1,(p.2.2.2.1,((p.2.2.2.2.1.1,(p.2.2.2.2.1.2,())),(t,()))))))),(((w8 p.2.2.2.2.2.1),()),(p.2.2.2.2.2.2,())))
 st:=fun Y p t ki ke=>cond (decide (t<(2:Int)))
  (cond (decide (t=(0:Int)))
  (cond (decide ((0:Int)≤p.2.2.2.2.1.1))
  (ask (V.inRange p.1 (List.length p.2.2.2.2.2.2)) ((f16_m (p.2.2.2.2.2.1,(gx p.2.2.2.2.2.2 (Int.toNat p.1) dMods),p.1,t)).bind fun r1=>
  ask (V.inRange p.2.2.2.2.1.1 (List.length p.2.2.2.2.2.2)) ((f25_m (r1,(gx p.2.2.2.2.2.2 (Int.toNat p.2.2.2.2.1.1) dMods))).bind fun r2=>
  cond (!r2)
  (ke (.inl ()))
  (ki ((wi64 (t+(1:Int))))))))
  (ki ((wi64 (t+(1:Int))))))
  (cond (decide (t=(1:Int)))
  (cond (decide ((0:Int)≤p.2.2.2.2.1.2))
  (ask (V.inRange p.1 (List.length p.2.2.2.2.2.2)) ((f16_m (p.2.2.2.2.2.1,(gx p.2.2.2.2.2.2 (Int.toNat p.1) dMods),p.1,t)).bind fun r3=>
  ask (V.inRange p.2.2.2.2.1.2 (List.length p.2.2.2.2.2.2)) ((f25_m (r3,(gx p.2.2.2.2.2.2 (Int.toNat p.2.2.2.2.1.2) dMods))).bind fun r4=>
  cond (!r4)
  (ke (.inl ()))
  (ki ((wi64 (t+(1:Int))))))))
  (ki ((wi64 (t+(1:Int))))))
  (none)))
  (ke (.inr (())))
 o:=fun Z p e K=>Sum.elim (fun e=>K .ret ⟨[(4,.v (.bool false))],[],⟨[.cells cMods p.2.2.2.2.2.2],0⟩,1⟩) (fun e=>K (.exit 2) ⟨[(1,.v (.all 0)),(2,.loc 0 0),(25,.v (.lit (.int .i64) p.2.1)),(26,.v (.int .i64 p.2.2.1)),(27,.v (.int .i64 p.2.2.2.1))],[[.lit cInstr p.2.2.2.2.2.1.1,.int .i64 p.2.2.2.2.2.1.2.1,.int .i64 p.2.2.2.2.2.1.2.2.1,.int .i64 p.2.2.2.2.2.1.2.2.2.1,.lit cArray p.2.2.2.2.2.1.2.2.2.2.1,.lit cScalar p.2.2.2.2.2.1.2.2.2.2.2.1,.lit cArray p.2.2.2.2.2.1.2.2.2.2.2.2.1,.lit cItv p.2.2.2.2.2.1.2.2.2.2.2.2.2]],⟨[.cells cMods p.2.2.2.2.2.2],0⟩,1⟩) e
 pol:=⟨[1,2,6,25,26,27,36,37],[],[],[]⟩
 pe:=[(.ret,⟨[4],[],[],[]⟩),(.exit 2,⟨[1,2,25,26,27],[],[],[]⟩)]
def f23v1_l4:LD ((List Int)×Int×(TGraph×(List TMods))) (Int) ((Unit) ⊕ (Unit)) where
 sk:=⟨[(1,.v (.all 0)),(2,.loc 0 0),(25,.v (.lit (.int .i64))),(26,.v (.int .i64)),(27,.v (.int .i64))],[kG],[.cells cMods],0,1⟩
 p:=fun u=>(u.1.2.1,u.1.2.2.1,((q8 u.2.1.1),u.2.2.1))
 t:=fun u=>u.1.2.2.2.1
 n:=fun p t=>(((),(p.1,(p.2.1,(t,())))),(((w8 p.2.2.1),()),(p.2.2.2,())))
 st:=fun Y p t ki ke=>cond (decide (t<p.2.1))
  (ask (V.inRange t (List.length p.1)) (ask (V.inRange (gx p.1 (Int.toNat t) (0:Int)) (List.length p.2.2.1.1)) ((loopAll (f23v1_l7.m ((gx p.1 (Int.toNat t) (0:Int)),p.1,p.2.1,t,(gx p.2.2.1.1 (Int.toNat (gx p.1 (Int.toNat t) (0:Int))) dInstr).2.2.2.2.2.2,p.2.2)) 0).bind fun e1=>
  Sum.elim (fun e2=>ke (.inl ()))
  (fun e3=>ki ((wi64 (t+(1:Int))))) e1)))
  (ke (.inr (())))
 o:=fun Z p e K=>Sum.elim (fun e=>K .ret ⟨[(4,.v (.bool false))],[],⟨[.cells cMods p.2.2.2],0⟩,1⟩) (fun e=>K (.exit 0) ⟨[],[],⟨[.cells cMods p.2.2.2],0⟩,1⟩) e
 pol:=⟨[1,2,25,26,27],[],[],[]⟩
 pe:=[(.ret,⟨[4],[],[],[]⟩),(.exit 0,⟨[],[],[],[]⟩)]
def f23v1_c {X:Type} (a:TGraph×(List TMods)) (K:Bool→Option X):Option X:=
 cond (!(decide ((nt (List.length a.2))=(nt (List.length a.1.1)))))
 (K false)
 ((f32_m a.1).bind fun r1=>
 ask (V.inRange 0 (List.length a.2)) ((f25_m ((true,r1),(gx a.2 0 dMods))).bind fun r2=>
 cond (!r2)
 (K false)
 ((f58_m a.1).bind fun r3=>
 (loopAll (f23v1_l4.m (r3,(nt (List.length r3)),a)) 0).bind fun e4=>
 Sum.elim (fun e5=>K false)
 (fun e6=>K true) e4)))
def f23v1_m (a:TGraph×(List TMods)):Option (Bool):=f23v1_c a some
def f23v1_sp:Spec:=f23v1_s.sp f23v1_m
noncomputable def f23v1_e:Env:=⟨fun k=>[].contains k,callsL [(32,f32_sp),(25,f25_sp),(58,f58_sp),(16,f16_sp)],fun X k s K=>if k=7 then f23v1_l7.q X s K else if k=4 then f23v1_l4.q X s K else none⟩
noncomputable def f23v1_l7_c:Code:=subAt [1,1,0,1,0,0,1,1,0,0,1,1,0,0] (bodyOf Tryz.f23)
theorem f23v1_l7_ok (hc:SimCall C f23v1_e.call):LoopSim f23v1_e.loop (vc par C true [2] 61) (.loop f23v1_l7_c):=
 lO hc f23v1_l7 (by intros;simp only [f23v1_l7,LD.m,nn])
noncomputable def f23v1_l4_c:Code:=subAt [1,1,0,1,0,0] (bodyOf Tryz.f23)
theorem f23v1_l4_ok (hc:SimCall C f23v1_e.call):LoopSim f23v1_e.loop (vc par C true [2] 61) (.loop f23v1_l4_c):=
 lO hc f23v1_l4 (by intros;simp only [f23v1_l4,LD.m,nn]) (hl:=(lp_of (by kernel_rfl) (lp_cons (f23v1_l7_ok hc) lp_nil)))
theorem f23v1_ok:OK (166020696663385964547) 23 (f23v1_s.sp f23v1_m):=
 fO (d:=166020696663385964546) (env:=f23v1_e) (callsL_sim (cc f32_ok (cc f25_ok (cc f58_ok (cc f16_ok cn))))) (fn:=Tryz.f23) (mc:=@f23v1_c) (by intros;simp only [f23v1_m,f23v1_c,nn]) (locs:=[2]) (hl:=fun hc=>(lp_of (by kernel_rfl) (lp_cons (f23v1_l4_ok hc) lp_nil)))
def f6_s:FS (TGraph×(List TMods)) (Bool) where
 sk:=⟨(.cons (.agg kG) (.cons (.lit cMods) .nil)),[],0⟩
 a:=fun u=>((q8 u.1.1),u.1.2.1)
 n:=fun a=>(((w8 a.1),(a.2,())),())
 o:=fun Z a r K=>K (.bool r) ⟨[],0⟩
def f6_l8:LD ((List TMods)×(List TMods)×TGraph) (Int) ((Unit) ⊕ (Unit)) where
 sk:=⟨[(1,.v (.lit cMods)),(2,.loc 0 0),(5,.v (.lit cMods)),(6,.v (.int .i64))],[kG],[],0,0⟩
 p:=fun u=>(u.1.1,u.1.2.1,(q8 u.2.1.1))
 t:=fun u=>u.1.2.2.1
 n:=fun p t=>((p.1,(p.2.1,(t,()))),(((w8 p.2.2),()),()))
 st:=fun Y p t ki ke=>cond (decide (t<(nt (List.length p.2.1))))
  (ask (V.inRange t (List.length p.2.1)) (ask (V.inRange t (List.length p.1)) ((f25_m ((gx p.2.1 (Int.toNat t) dMods),(gx p.1 (Int.toNat t) dMods))).bind fun r1=>
  cond (!r1)
  (ke (.inl ()))
  (ki ((wi64 (t+(1:Int))))))))
  (ke (.inr (())))
 o:=fun Z p e K=>Sum.elim (fun e=>K .ret ⟨[(4,.v (.bool false))],[],⟨[],0⟩,0⟩) (fun e=>K (.exit 0) ⟨[(1,.v (.lit cMods p.1)),(2,.loc 0 0),(5,.v (.lit cMods p.2.1))],[[.lit cInstr p.2.2.1,.int .i64 p.2.2.2.1,.int .i64 p.2.2.2.2.1,.int .i64 p.2.2.2.2.2.1,.lit cArray p.2.2.2.2.2.2.1,.lit cScalar p.2.2.2.2.2.2.2.1,.lit cArray p.2.2.2.2.2.2.2.2.1,.lit cItv p.2.2.2.2.2.2.2.2.2]],⟨[],0⟩,0⟩) e
 pol:=⟨[1,2,5,6],[],[],[]⟩
 pe:=[(.ret,⟨[4],[],[],[]⟩),(.exit 0,⟨[1,2,5],[],[],[]⟩)]
def f6_l15:LD ((List TMods)×TGraph) (Int) ((Unit) ⊕ (Unit)) where
 sk:=⟨[(2,.loc 0 0),(5,.v (.lit cMods)),(7,.v (.int .i64))],[kG],[],0,0⟩
 p:=fun u=>(u.1.1,(q8 u.2.1.1))
 t:=fun u=>u.1.2.1
 n:=fun p t=>((p.1,(t,())),(((w8 p.2),()),()))
 st:=fun Y p t ki ke=>cond (decide (t<(nt (List.length p.1))))
  (ask (V.inRange t (List.length p.1)) (cond (!(gx p.1 (Int.toNat t) dMods).1)
  (ki ((wi64 (t+(1:Int)))))
  (ask (decide (0≤(nt (List.length p.1)))&&decide ((nt (List.length p.1))≤(nt (List.length p.1)))&&decide (56 * (nt (List.length p.1))≤70368744177664)&&decide ((nt (List.length p.1))<9223372036854775808)) (ask (V.inRange t (List.length (cpyL 0 (min (List.length p.1) (List.length (List.replicate (Int.toNat (nt (List.length p.1))) ((false,([],[])):TMods)))) p.1 (List.replicate (Int.toNat (nt (List.length p.1))) ((false,([],[])):TMods))))) ((f23v1_m (p.2,(List.set (cpyL 0 (min (List.length p.1) (List.length (List.replicate (Int.toNat (nt (List.length p.1))) ((false,([],[])):TMods)))) p.1 (List.replicate (Int.toNat (nt (List.length p.1))) ((false,([],[])):TMods))) (Int.toNat t) (false,([],[]))))).bind fun r1=>
  cond r1
  (ke (.inl ()))
  (ke (.inr (()))))))))
  (ke (.inr (())))
 o:=fun Z p e K=>Sum.elim (fun e=>K .ret ⟨[(4,.v (.bool false))],[],⟨[],0⟩,0⟩) (fun e=>K (.exit 2) ⟨[],[],⟨[],0⟩,0⟩) e
 pol:=⟨[2,5,7],[],[],[]⟩
 pe:=[(.ret,⟨[4],[],[],[]⟩),(.exit 2,⟨[],[],[],[]⟩)]
def f6_c {X:Type} (a:TGraph×(List TMods)) (K:Bool→Option X):Option X:=
 (f10_m a.1).bind fun r1=>
 cond (!r1)
 ((f12_m ()).bind fun r2=>
 K r2)
 ((f20_m (a.1,a.2)).bind fun r3=>
 cond (!r3)
 ((f12_m ()).bind fun r4=>
 K r4)
 ((f21_m a.1).bind fun r5=>
 (f23_m (a.1,r5)).bind fun r6=>
 cond (!r6)
 (K false)
 ((f20_m (a.1,r5)).bind fun r7=>
 cond (!r7)
 (K false)
 ((f23_m (a.1,a.2)).bind fun r8=>
 cond r8
 ((loopAll (f6_l8.m (a.2,r5,a.1)) 0).bind fun e9=>
 Sum.elim (fun e10=>K false)
 (fun e11=>cond (decide ((nt (List.length r5))=(0:Int)))
 ((f12_m ()).bind fun r12=>
 K r12)
 (cond (decide ((nt (List.length a.2))=(0:Int)))
 ((f12_m ()).bind fun r13=>
 K r13)
 ((loopAll (f6_l15.m (r5,a.1)) 0).bind fun e14=>
 Sum.elim (fun e15=>K false)
 (fun e16=>(f12_m ()).bind fun r17=>
 K r17) e14))) e9)
 (cond (decide ((nt (List.length r5))=(0:Int)))
 ((f12_m ()).bind fun r18=>
 K r18)
 (cond (decide ((nt (List.length a.2))=(0:Int)))
 ((f12_m ()).bind fun r19=>
 K r19)
 ((loopAll (f6_l15.m (r5,a.1)) 0).bind fun e20=>
 Sum.elim (fun e21=>K false)
 (fun e22=>(f12_m ()).bind fun r23=>
 K r23) e20)))))))
def f6_m (a:TGraph×(List TMods)):Option (Bool):=f6_c a some
def f6_sp:Spec:=f6_s.sp f6_m
noncomputable def f6_e:Env:=⟨fun k=>[].contains k,callsL [(10,f10_sp),(12,f12_sp),(20,f20_sp),(21,f21_sp),(23,(alt f23_s.tk f23_sp f23v1_sp)),(25,f25_sp)],fun X k s K=>if k=8 then f6_l8.q X s K else if k=15 then f6_l15.q X s K else none⟩
noncomputable def f6_l8_c:Code:=subAt [1,1,1,1,0,1,0,1,0,0] (bodyOf Tryz.f6)
theorem f6_l8_ok (hc:SimCall C f6_e.call):LoopSim f6_e.loop (vc par C true [2] 85) (.loop f6_l8_c):=
 lO hc f6_l8 (by intros;simp only [f6_l8,LD.m,nn])
noncomputable def f6_l15_c:Code:=subAt [1,1,1,1,1,1,0,1,0,0] (bodyOf Tryz.f6)
theorem f6_l15_ok (hc:SimCall C f6_e.call):LoopSim f6_e.loop (vc par C true [2] 85) (.loop f6_l15_c):=
 lO hc f6_l15 (by intros;simp only [f6_l15,LD.m,nn])
theorem f6_ok:OK (166020696663385964549) 6 (f6_s.sp f6_m):=
 fO (d:=166020696663385964548) (env:=f6_e) (callsL_sim (cc f10_ok (cc f12_ok (cc f20_ok (cc f21_ok (cA f23_ok (cc f23v1_ok (cc f25_ok cn)))))))) (fn:=Tryz.f6) (mc:=@f6_c) (by intros;simp only [f6_m,f6_c,nn]) (locs:=[2]) (hl:=fun hc=>(lp_of (by kernel_rfl) (lp_cons (f6_l8_ok hc) (lp_cons (f6_l15_ok hc) lp_nil))))
end
end Go.U
end
