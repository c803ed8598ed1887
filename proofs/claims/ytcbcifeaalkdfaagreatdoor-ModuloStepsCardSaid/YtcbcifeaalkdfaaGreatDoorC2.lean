/- The functions of the program as Lean functions, and that the evaluator says so. -/
import Derived.Test.YtcbcifeaalkdfaaGreatDoorC1
set_option linter.unusedVariables false
set_option linter.unusedSimpArgs false
set_option linter.unusedSectionVars false
section
set_option maxRecDepth 100000
namespace Go.U
open Go Go.Proofs
noncomputable section
variable {C:V.Callee}
def f45_s:FS (Unit) ((List TInstr)×(List TArray)×(List TScalar)×(List TArray)×(List TItv)) where
 sk:=⟨.nil,[],0⟩
 a:=fun u=>()
 n:=fun a=>((),())
 o:=fun Z a r K=>K (.agg [.lit cInstr r.1,.int .i64 0,.int .i64 3,.int .i64 0,.lit cArray r.2.1,.lit cScalar r.2.2.1,.lit cArray r.2.2.2.1,.lit cItv r.2.2.2.2]) ⟨[],0⟩
def f45_c {X:Type} (a:Unit) (K:(List TInstr)×(List TArray)×(List TScalar)×(List TArray)×(List TItv)->Option X):Option X:=
 K (([(17,(0,(0,(0,(0,(0,(1,(-1)))))))),(1,(1,(0,(0,(2,(0,(2,(-1)))))))),(4,(2,(0,(1,(0,(1,(3,(-1)))))))),(13,(0,(2,(0,(0,(0,(4,(-1)))))))),(18,(0,(0,(0,(0,(0,(0,(-1))))))))]:List TInstr),[],([((str [120]),(3,0))]:List TScalar),[],([(0,0),(0,2)]:List TItv))
def f45_m (a:Unit):Option ((List TInstr)×(List TArray)×(List TScalar)×(List TArray)×(List TItv)):=f45_c a some
def f45_sp:Spec:=f45_s.sp f45_m
noncomputable def f45_e:Env:=⟨fun k=>[].contains k,callsL [],fun X k s K=>none⟩
theorem f45_ok:OK (1) 45 (f45_s.sp f45_m):=
 fO (d:=0) (env:=f45_e) (callsL_sim cn) (fn:=Tryz.f45) (mc:=@f45_c) (by intros;simp only [f45_m,f45_c,nn]) (locs:=[0]) (sh:=(.agg [(.lit cInstr),.any,.any,.any,(.lit cArray),(.lit cScalar),(.lit cArray),(.lit cItv)])) (fz:=true)
def f124_s:FS (Unit) (Unit) where
 sk:=⟨.nil,[],0⟩
 a:=fun u=>()
 n:=fun a=>((),())
 o:=fun Z a r K=>K (.agg [.bool true,.int .i64 0,.int .i64 0]) ⟨[],0⟩
def f124_c {X:Type} (a:Unit) (K:Unit->Option X):Option X:=
 K ()
def f124_m (a:Unit):Option (Unit):=f124_c a some
def f124_sp:Spec:=f124_s.sp f124_m
noncomputable def f124_e:Env:=⟨fun k=>[].contains k,callsL [],fun X k s K=>none⟩
theorem f124_ok:OK (1) 124 (f124_s.sp f124_m):=
 fO (d:=0) (env:=f124_e) (callsL_sim cn) (fn:=Tryz.f124) (mc:=@f124_c) (by intros;simp only [f124_m,f124_c,nn]) (locs:=[0])
def f127_s:FS (Int) (Bool×Int) where
 sk:=⟨(.cons (.int .i64) .nil),[],0⟩
 a:=fun u=>u.1.1
 n:=fun a=>((a,()),())
 o:=fun Z a r K=>K (.agg [.bool r.1,.int .i64 0,.int .i64 r.2]) ⟨[],0⟩
def f127_c {X:Type} (a:Int) (K:(Bool×Int)->Option X):Option X:=
 cond (decide (a<(-2147483648:Int)))
 (K (true,0))
 (cond (decide ((2147483647:Int)<a))
 (K (true,0))
 (K (false,a)))
def f127_m (a:Int):Option (Bool×Int):=f127_c a some
def f127_sp:Spec:=f127_s.sp f127_m
noncomputable def f127_e:Env:=⟨fun k=>[].contains k,callsL [(124,f124_sp)],fun X k s K=>none⟩
theorem f127_ok:OK (2) 127 (f127_s.sp f127_m):=
 fO (d:=1) (env:=f127_e) (callsL_sim (cc f124_ok cn)) (fn:=Tryz.f127) (mc:=@f127_c) (by intros;simp only [f127_m,f127_c,nn]) (locs:=[2])
def f129_s:FS (Int) (Int) where
 sk:=⟨(.cons (.int .i64) .nil),[],0⟩
 a:=fun u=>u.1.1
 n:=fun a=>((a,()),())
 o:=fun Z a r K=>K (.int .u64 r) ⟨[],0⟩
def f129_c {X:Type} (a:Int) (K:Int->Option X):Option X:=
 cond (decide (a<(0:Int)))
 (K (wu64 ((0:Int)-(wu64 a))))
 (K (wu64 a))
def f129_m (a:Int):Option (Int):=f129_c a some
def f129_sp:Spec:=f129_s.sp f129_m
noncomputable def f129_e:Env:=⟨fun k=>[].contains k,callsL [],fun X k s K=>none⟩
theorem f129_ok:OK (1) 129 (f129_s.sp f129_m):=
 fO (d:=0) (env:=f129_e) (callsL_sim cn) (fn:=Tryz.f129) (mc:=@f129_c) (by intros;simp only [f129_m,f129_c,nn])
def f117_s:FS (Int×Int) (Int) where
 sk:=⟨(.cons (.int .i64) (.cons (.int .u64) .nil)),[],0⟩
 a:=fun u=>(u.1.1,u.1.2.1)
 n:=fun a=>((a.1,(a.2,())),())
 o:=fun Z a r K=>K (.int .u64 r) ⟨[],0⟩
def f117_c {X:Type} (a:Int×Int) (K:Int->Option X):Option X:=
 (f129_m a.1).bind fun r1=>
 cond (decide (a.2=(0:Int)))
 (none)
 (cond (decide (a.1<(0:Int)))
 (cond (decide ((0:Int)<(Int.tmod r1 a.2)))
 (K (wu64 (a.2-(Int.tmod r1 a.2))))
 (K (Int.tmod r1 a.2)))
 (K (Int.tmod r1 a.2)))
def f117_m (a:Int×Int):Option (Int):=f117_c a some
def f117_sp:Spec:=f117_s.sp f117_m
noncomputable def f117_e:Env:=⟨fun k=>[].contains k,callsL [(129,f129_sp)],fun X k s K=>none⟩
theorem f117_ok:OK (2) 117 (f117_s.sp f117_m):=
 fO (d:=1) (env:=f117_e) (callsL_sim (cc f129_ok cn)) (fn:=Tryz.f117) (mc:=@f117_c) (by intros;simp only [f117_m,f117_c,nn])
def f132_s:FS (Int×Int) (TCongr) where
 sk:=⟨(.cons (.int .u64) (.cons (.int .u64) .nil)),[],0⟩
 a:=fun u=>(u.1.1,u.1.2.1)
 n:=fun a=>((a.1,(a.2,())),())
 o:=fun Z a r K=>K (.agg [.bool r.1,.int .i64 r.2.1,.int .i64 r.2.2]) ⟨[],0⟩
def f132_c {X:Type} (a:Int×Int) (K:TCongr->Option X):Option X:=
 (f117_m ((-2147483648),a.1)).bind fun r1=>
 cond (decide (a.2<r1))
 (cond (decide ((4294967295:Int)<(wu64 (a.2+(wu64 (a.1-r1))))))
 (K (true,(0,0)))
 (cond (decide ((wu64 (wi64 ((2147483647:Int)-(wi64 ((-2147483648:Int)+(wi64 (wu64 (a.2+(wu64 (a.1-r1))))))))))<a.1))
 (K (false,(0,(wi64 ((-2147483648:Int)+(wi64 (wu64 (a.2+(wu64 (a.1-r1))))))))))
 (K (false,((wi64 a.1),(wi64 a.2))))))
 (cond (decide ((4294967295:Int)<(wu64 (a.2-r1))))
 (K (true,(0,0)))
 (cond (decide ((wu64 (wi64 ((2147483647:Int)-(wi64 ((-2147483648:Int)+(wi64 (wu64 (a.2-r1))))))))<a.1))
 (K (false,(0,(wi64 ((-2147483648:Int)+(wi64 (wu64 (a.2-r1))))))))
 (K (false,((wi64 a.1),(wi64 a.2))))))
def f132_m (a:Int×Int):Option (TCongr):=f132_c a some
def f132_sp:Spec:=f132_s.sp f132_m
noncomputable def f132_e:Env:=⟨fun k=>[].contains k,callsL [(117,f117_sp),(124,f124_sp)],fun X k s K=>none⟩
theorem f132_ok:OK (3) 132 (f132_s.sp f132_m):=
 fO (d:=2) (env:=f132_e) (callsL_sim (cc f117_ok (cc f124_ok cn))) (fn:=Tryz.f132) (mc:=@f132_c) (by intros;simp only [f132_m,f132_c,nn]) (locs:=[4])
def f122_s:FS (Int×Int) (TCongr) where
 sk:=⟨kI,[],0⟩
 a:=fun u=>(u.1.1,u.1.2.1)
 n:=fun a=>((a.1,(a.2,())),())
 o:=fun Z a r K=>K (.agg [.bool r.1,.int .i64 r.2.1,.int .i64 r.2.2]) ⟨[],0⟩
def f122_c {X:Type} (a:Int×Int) (K:TCongr->Option X):Option X:=
 cond (decide (a.1=(0:Int)))
 ((f127_m a.2).bind fun r1=>
 K (r1.1,(0,r1.2)))
 ((f129_m a.1).bind fun r2=>
 (f129_m a.1).bind fun r3=>
 (f117_m (a.2,r3)).bind fun r4=>
 (f132_m (r2,r4)).bind fun r5=>
 K r5)
def f122_m (a:Int×Int):Option (TCongr):=f122_c a some
def f122_sp:Spec:=f122_s.sp f122_m
noncomputable def f122_e:Env:=⟨fun k=>[].contains k,callsL [(127,f127_sp),(129,f129_sp),(117,f117_sp),(132,f132_sp)],fun X k s K=>none⟩
theorem f122_ok:OK (4) 122 (f122_s.sp f122_m):=
 fO (d:=3) (env:=f122_e) (callsL_sim (cc f127_ok (cc f129_ok (cc f117_ok (cc f132_ok cn))))) (fn:=Tryz.f122) (mc:=@f122_c) (by intros;simp only [f122_m,f122_c,nn]) (locs:=[4])
def f70_s:FS (Int) (TCongr) where
 sk:=⟨(.cons (.int .i64) .nil),[],0⟩
 a:=fun u=>u.1.1
 n:=fun a=>((a,()),())
 o:=fun Z a r K=>K (.agg [.bool r.1,.int .i64 r.2.1,.int .i64 r.2.2]) ⟨[],0⟩
def f70_c {X:Type} (a:Int) (K:TCongr->Option X):Option X:=
 (f122_m (0,a)).bind fun r1=>
 K r1
def f70_m (a:Int):Option (TCongr):=f70_c a some
def f70_sp:Spec:=f70_s.sp f70_m
noncomputable def f70_e:Env:=⟨fun k=>[].contains k,callsL [(122,f122_sp)],fun X k s K=>none⟩
theorem f70_ok:OK (5) 70 (f70_s.sp f70_m):=
 fO (d:=4) (env:=f70_e) (callsL_sim (cc f122_ok cn)) (fn:=Tryz.f70) (mc:=@f70_c) (by intros;simp only [f70_m,f70_c,nn]) (locs:=[2])
def f32_s:FS (TGraph) ((List TCongr)×(List TCongr)) where
 sk:=⟨(.cons (.agg kG) .nil),[],0⟩
 a:=fun u=>(q8 u.1.1)
 n:=fun a=>(((w8 a),()),())
 o:=fun Z a r K=>K (.agg [.bool true,.lit cCongr r.1,.lit cCongr r.2]) ⟨[],0⟩
def f32_l3:LD ((List TScalar)×Int×TGraph×Bool×Bool) (Int×(List TCongr)) ((List TCongr)) where
 sk:=⟨[(1,.loc 0 0),(2,.loc 1 0),(3,.loc 2 0),(10,.v (.lit cScalar)),(11,.v (.int .i64)),(12,.v (.int .i64))],[kG,(.cons .bool (.cons .nils (.cons .nils .nil))),(.cons .bool (.cons (.all 0) (.cons .nils .nil)))],[.cells cCongr],0,0⟩
 p:=fun u=>(u.1.1,u.1.2.1,(q8 u.2.1.1),u.2.1.2.1.1,u.2.1.2.2.1.1)
 t:=fun u=>(u.1.2.2.1,u.2.2.1)
 n:=fun p t=>((p.1,(p.2.1,(t.1,()))),(((w8 p.2.2.1),((p.2.2.2.1,((),((),()))),((p.2.2.2.2,((),((),()))),()))),(t.2,())))
 st:=fun Y p t ki ke=>cond (decide (t.1<p.2.1))
  (ask (V.inRange t.1 (List.length p.1)) ((f70_m (gx p.1 (Int.toNat t.1) dScalar).2.2).bind fun r1=>
  ask (decide (((List.length t.2)+(List.length ([r1]:List TCongr))) * 24<=70368744177664)&&decide (((List.length t.2)+(List.length ([r1]:List TCongr)))<9223372036854775808)) (ki ((wi64 (t.1+(1:Int))),(t.2++([r1]:List TCongr))))))
  (ke (t.2))
 o:=fun Z p e K=>K (.exit 0) ⟨[(1,.loc 0 0),(2,.loc 1 0),(3,.loc 2 0)],[[.lit cInstr p.2.2.1.1,.int .i64 p.2.2.1.2.1,.int .i64 p.2.2.1.2.2.1,.int .i64 p.2.2.1.2.2.2.1,.lit cArray p.2.2.1.2.2.2.2.1,.lit cScalar p.2.2.1.2.2.2.2.2.1,.lit cArray p.2.2.1.2.2.2.2.2.2.1,.lit cItv p.2.2.1.2.2.2.2.2.2.2],[.bool p.2.2.2.1,.nils,.nils],[.bool p.2.2.2.2,.all 0,.nils]],⟨[.cells cCongr e],0⟩,0⟩
 pol:=⟨[1,2,3,10,11,12],[],[(2,[.any,(.own cCongr),.any])],[]⟩
 pe:=[(.exit 0,⟨[1,2,3],[],[],[]⟩)]
def f32_l8:LD ((List TArray)×Int×Bool×Bool×(List TCongr)) (Int×(List TCongr)) ((List TCongr)) where
 sk:=⟨[(2,.loc 0 0),(3,.loc 1 0),(26,.v (.lit cArray)),(27,.v (.int .i64)),(28,.v (.int .i64))],[(.cons .bool (.cons .nils (.cons .nils .nil))),(.cons .bool (.cons (.all 0) (.cons (.all 1) .nil)))],[.cells cCongr,.cells cCongr],0,0⟩
 p:=fun u=>(u.1.1,u.1.2.1,u.2.1.1.1,u.2.1.2.1.1,u.2.2.1)
 t:=fun u=>(u.1.2.2.1,u.2.2.2.1)
 n:=fun p t=>((p.1,(p.2.1,(t.1,()))),(((p.2.2.1,((),((),()))),((p.2.2.2.1,((),((),()))),())),(p.2.2.2.2,(t.2,()))))
 st:=fun Y p t ki ke=>cond (decide (t.1<p.2.1))
  (ask (V.inRange t.1 (List.length p.1)) ((f70_m (gx p.1 (Int.toNat t.1) dArray).2.2.2).bind fun r1=>
  ask (decide (((List.length t.2)+(List.length ([r1]:List TCongr))) * 24<=70368744177664)&&decide (((List.length t.2)+(List.length ([r1]:List TCongr)))<9223372036854775808)) (ki ((wi64 (t.1+(1:Int))),(t.2++([r1]:List TCongr))))))
  (ke (t.2))
 o:=fun Z p e K=>K (.exit 2) ⟨[(2,.loc 0 0),(3,.loc 1 0)],[[.bool p.2.2.1,.nils,.nils],[.bool p.2.2.2.1,.all 0,.all 1]],⟨[.cells cCongr p.2.2.2.2,.cells cCongr e],0⟩,0⟩
 pol:=⟨[2,3,26,27,28],[],[(1,[.any,.any,(.own cCongr)])],[]⟩
 pe:=[(.exit 2,⟨[2,3],[],[],[]⟩)]
def f32_c {X:Type} (a:TGraph) (K:(List TCongr)×(List TCongr)->Option X):Option X:=
 (loopAll (f32_l3.m (a.2.2.2.2.2.1,(nt (List.length a.2.2.2.2.2.1)),a,false,true)) (0,[])).bind fun e1=>
 (loopAll (f32_l8.m (a.2.2.2.2.2.2.1,(nt (List.length a.2.2.2.2.2.2.1)),false,true,e1)) (0,[])).bind fun e2=>
 K (e1,e2)
def f32_m (a:TGraph):Option ((List TCongr)×(List TCongr)):=f32_c a some
def f32_sp:Spec:=f32_s.sp f32_m
noncomputable def f32_e:Env:=⟨fun k=>[].contains k,callsL [(70,f70_sp)],fun X k s K=>if k=3 then f32_l3.q X s K else if k=8 then f32_l8.q X s K else none⟩
noncomputable def f32_l3_c:Code:=subAt [1,1,0,1,0,0] (bodyOf Tryz.f32)
theorem f32_l3_ok (hc:SimCall C f32_e.call):LoopSim f32_e.loop (vc par C true [1,2,3,5,7] 42) (.loop f32_l3_c):=
 lO hc f32_l3 (by intros;simp only [f32_l3,LD.m,nn])
noncomputable def f32_l8_c:Code:=subAt [1,1,1,0,1,0,0] (bodyOf Tryz.f32)
theorem f32_l8_ok (hc:SimCall C f32_e.call):LoopSim f32_e.loop (vc par C true [1,2,3,5,7] 42) (.loop f32_l8_c):=
 lO hc f32_l8 (by intros;simp only [f32_l8,LD.m,nn])
theorem f32_ok:OK (6) 32 (f32_s.sp f32_m):=
 fO (d:=5) (env:=f32_e) (callsL_sim (cc f70_ok cn)) (fn:=Tryz.f32) (mc:=@f32_c) (by intros;simp only [f32_m,f32_c,nn]) (locs:=[1,2,3,5,7]) (sh:=(.agg [.any,(.lit cCongr),(.lit cCongr)])) (fz:=true) (hl:=fun hc=>(lp_of (by kernel_rfl) (lp_cons (f32_l3_ok hc) (lp_cons (f32_l8_ok hc) lp_nil))))
def f156_s:FS ((List Int)) ((List Int)) where
 sk:=⟨(.cons (.all 0) .nil),[.cells (.int .i64)],0⟩
 a:=fun u=>u.2.1
 n:=fun a=>(((),()),(a,()))
 o:=fun Z a r K=>K (.tup []) ⟨[.cells (.int .i64) r],0⟩
def f156_l1:LD (Unit) (Int×Int×(List Int)) ((List Int)) where
 sk:=⟨[(0,.v (.all 0)),(2,.v (.int .i64)),(3,.v (.int .i64))],[],[.cells (.int .i64)],0,1⟩
 p:=fun u=>()
 t:=fun u=>(u.1.2.1,u.1.2.2.1,u.2.2.1)
 n:=fun p t=>(((),(t.1,(t.2.1,()))),((),(t.2.2,())))
 st:=fun Y p t ki ke=>cond (decide (t.1<t.2.1))
  (ask (V.inRange t.2.1 (List.length t.2.2)) (ask (V.inRange t.1 (List.length t.2.2)) (ask (V.inRange t.1 (List.length t.2.2)) (ask (V.inRange t.2.1 (List.length (List.set t.2.2 (Int.toNat t.1) (gx t.2.2 (Int.toNat t.2.1) (0:Int))))) (ki ((wi64 (t.1+(1:Int))),(wi64 (t.2.1-(1:Int))),(List.set (List.set t.2.2 (Int.toNat t.1) (gx t.2.2 (Int.toNat t.2.1) (0:Int))) (Int.toNat t.2.1) (gx t.2.2 (Int.toNat t.1) (0:Int)))))))))
  (ke (t.2.2))
 o:=fun Z p e K=>K (.exit 0) ⟨[],[],⟨[.cells (.int .i64) e],0⟩,1⟩
 pol:=⟨[0,2,3],[],[],[]⟩
 pe:=[(.exit 0,⟨[],[],[],[]⟩)]
def f156_c {X:Type} (a:(List Int)) (K:(List Int)->Option X):Option X:=
 (loopAll (f156_l1.m ()) (0,(wi64 ((nt (List.length a))-(1:Int))),a)).bind fun e1=>
 K e1
def f156_m (a:(List Int)):Option ((List Int)):=f156_c a some
def f156_sp:Spec:=f156_s.sp f156_m
noncomputable def f156_e:Env:=⟨fun k=>[].contains k,callsL [],fun X k s K=>if k=1 then f156_l1.q X s K else none⟩
noncomputable def f156_l1_c:Code:=subAt [1,0,0] (bodyOf Tryz.f156)
theorem f156_l1_ok (hc:SimCall C f156_e.call):LoopSim f156_e.loop (vc par C true [] 28) (.loop f156_l1_c):=
 lO hc f156_l1 (by intros;simp only [f156_l1,LD.m,nn])
theorem f156_ok:OK (1) 156 (f156_s.sp f156_m):=
 fO (d:=0) (env:=f156_e) (callsL_sim cn) (fn:=Tryz.f156) (mc:=@f156_c) (by intros;simp only [f156_m,f156_c,nn]) (hl:=fun hc=>(lp_of (by kernel_rfl) (lp_cons (f156_l1_ok hc) lp_nil)))
def f115_s:FS (TGraph) ((List Int)×(List Int)) where
 sk:=⟨(.cons (.agg kG) .nil),[],0⟩
 a:=fun u=>(q8 u.1.1)
 n:=fun a=>(((w8 a),()),())
 o:=fun Z a r K=>K (.ptr 0 0) ⟨[.opn [.lit cInstr a.1,.int .i64 a.2.1,.int .i64 a.2.2.1,.int .i64 a.2.2.2.1,.lit cArray a.2.2.2.2.1,.lit cScalar a.2.2.2.2.2.1,.lit cArray a.2.2.2.2.2.2.1,.lit cItv a.2.2.2.2.2.2.2,.all 1,.all 2],.cells (.int .i64) r.1,.cells (.int .i64) r.2],0⟩
def f115_l7:LD (Nat×TGraph×TGraph×(List Int)×(List Int)×(List TMark)) ((List TItv)) (((List TMark)×(List TItv)) ⊕ ((List TItv))) where
 sk:=⟨[(1,.loc 0 0),(3,.v (.ptr 0 0)),(4,.v (.all 3)),(5,.v (.all 4)),(6,.v (.pel 4 0))],[kG],[.opn (.cons (.lit cInstr) (.cons (.int .i64) (.cons (.int .i64) (.cons (.int .i64) (.cons (.lit cArray) (.cons (.lit cScalar) (.cons (.lit cArray) (.cons (.lit cItv) (.cons (.all 1) (.cons (.all 2) .nil)))))))))),.cells (.int .i64),.cells (.int .i64),.cells cMark,.cells cItv],0,0⟩
 p:=fun u=>(u.1.2.2.2.1,(q8 u.2.1.1),(q8 u.2.2.1),u.2.2.2.1,u.2.2.2.2.1,u.2.2.2.2.2.1)
 t:=fun u=>u.2.2.2.2.2.2.1
 n:=fun p t=>(((),((),((),(p.1,())))),(((w8 p.2.1),()),((p.2.2.1.1,(p.2.2.1.2.1,(p.2.2.1.2.2.1,(p.2.2.1.2.2.2.1,(p.2.2.1.2.2.2.2.1,(p.2.2.1.2.2.2.2.2.1,(p.2.2.1.2.2.2.2.2.2.1,(p.2.2.1.2.2.2.2.2.2.2,((),((),())))))))))),(p.2.2.2.1,(p.2.2.2.2.1,(p.2.2.2.2.2,(t,())))))))
 st:=fun Y p t ki ke=>cond (decide ((gx t p.1 dItv).2<(2:Int)))
  (ask (V.inRange (gx t p.1 dItv).1 (List.length p.2.1.1)) (cond (decide ((gx t p.1 dItv).2=(0:Int)))
  (cond (decide ((0:Int)<=(gx p.2.1.1 (Int.toNat (gx t p.1 dItv).1) dInstr).2.2.2.2.2.2.1))
  (ask (V.inRange (gx p.2.1.1 (Int.toNat (gx t p.1 dItv).1) dInstr).2.2.2.2.2.2.1 (List.length p.2.2.2.2.2)) (cond (((gx p.2.2.2.2.2 (Int.toNat (gx p.2.1.1 (Int.toNat (gx t p.1 dItv).1) dInstr).2.2.2.2.2.2.1) dMark).1==false)&&(((gx p.2.2.2.2.2 (Int.toNat (gx p.2.1.1 (Int.toNat (gx t p.1 dItv).1) dInstr).2.2.2.2.2.2.1) dMark).2==false)&&true))
  (ask (V.inRange (gx p.2.1.1 (Int.toNat (gx t p.1 dItv).1) dInstr).2.2.2.2.2.2.1 (List.length p.2.2.2.2.2)) (ask (decide (((List.length (List.set t p.1 ((gx t p.1 dItv).1,(wi64 ((gx t p.1 dItv).2+(1:Int))))))+(List.length ([((gx p.2.1.1 (Int.toNat (gx t p.1 dItv).1) dInstr).2.2.2.2.2.2.1,0)]:List TItv))) * 16<=70368744177664)&&decide (((List.length (List.set t p.1 ((gx t p.1 dItv).1,(wi64 ((gx t p.1 dItv).2+(1:Int))))))+(List.length ([((gx p.2.1.1 (Int.toNat (gx t p.1 dItv).1) dInstr).2.2.2.2.2.2.1,0)]:List TItv)))<9223372036854775808)) (ke (.inl ((List.set p.2.2.2.2.2 (Int.toNat (gx p.2.1.1 (Int.toNat (gx t p.1 dItv).1) dInstr).2.2.2.2.2.2.1) (true,(gx p.2.2.2.2.2 (Int.toNat (gx p.2.1.1 (Int.toNat (gx t p.1 dItv).1) dInstr).2.2.2.2.2.2.1) dMark).2)),((List.set t p.1 ((gx t p.1 dItv).1,(wi64 ((gx t p.1 dItv).2+(1:Int)))))++([((gx p.2.1.1 (Int.toNat (gx t p.1 dItv).1) dInstr).2.2.2.2.2.2.1,0)]:List TItv)))))))
  (ki ((List.set t p.1 ((gx t p.1 dItv).1,(wi64 ((gx t p.1 dItv).2+(1:Int)))))))))
  (ki ((List.set t p.1 ((gx t p.1 dItv).1,(wi64 ((gx t p.1 dItv).2+(1:Int))))))))
  (cond (decide ((gx t p.1 dItv).2=(1:Int)))
  (cond (decide ((0:Int)<=(gx p.2.1.1 (Int.toNat (gx t p.1 dItv).1) dInstr).2.2.2.2.2.2.2))
  (ask (V.inRange (gx p.2.1.1 (Int.toNat (gx t p.1 dItv).1) dInstr).2.2.2.2.2.2.2 (List.length p.2.2.2.2.2)) (cond (((gx p.2.2.2.2.2 (Int.toNat (gx p.2.1.1 (Int.toNat (gx t p.1 dItv).1) dInstr).2.2.2.2.2.2.2) dMark).1==false)&&(((gx p.2.2.2.2.2 (Int.toNat (gx p.2.1.1 (Int.toNat (gx t p.1 dItv).1) dInstr).2.2.2.2.2.2.2) dMark).2==false)&&true))
  (ask (V.inRange (gx p.2.1.1 (Int.toNat (gx t p.1 dItv).1) dInstr).2.2.2.2.2.2.2 (List.length p.2.2.2.2.2)) (ask (decide (((List.length (List.set t p.1 ((gx t p.1 dItv).1,(wi64 ((gx t p.1 dItv).2+(1:Int))))))+(List.length ([((gx p.2.1.1 (Int.toNat (gx t p.1 dItv).1) dInstr).2.2.2.2.2.2.2,0)]:List TItv))) * 16<=70368744177664)&&decide (((List.length (List.set t p.1 ((gx t p.1 dItv).1,(wi64 ((gx t p.1 dItv).2+(1:Int))))))+(List.length ([((gx p.2.1.1 (Int.toNat (gx t p.1 dItv).1) dInstr).2.2.2.2.2.2.2,0)]:List TItv)))<9223372036854775808)) (ke (.inl ((List.set p.2.2.2.2.2 (Int.toNat (gx p.2.1.1 (Int.toNat (gx t p.1 dItv).1) dInstr).2.2.2.2.2.2.2) (true,(gx p.2.2.2.2.2 (Int.toNat (gx p.2.1.1 (Int.toNat (gx t p.1 dItv).1) dInstr).2.2.2.2.2.2.2) dMark).2)),((List.set t p.1 ((gx t p.1 dItv).1,(wi64 ((gx t p.1 dItv).2+(1:Int)))))++([((gx p.2.1.1 (Int.toNat (gx t p.1 dItv).1) dInstr).2.2.2.2.2.2.2,0)]:List TItv)))))))
  (ki ((List.set t p.1 ((gx t p.1 dItv).1,(wi64 ((gx t p.1 dItv).2+(1:Int)))))))))
  (ki ((List.set t p.1 ((gx t p.1 dItv).1,(wi64 ((gx t p.1 dItv).2+(1:Int))))))))
  (none))))
  (ke (.inr (t)))
 o:=fun Z p e K=>Sum.elim (fun e=>K (.exit 1) ⟨[(1,.loc 0 0),(3,.v (.ptr 0 0)),(4,.v (.all 3)),(5,.v (.all 4))],[[.lit cInstr p.2.1.1,.int .i64 p.2.1.2.1,.int .i64 p.2.1.2.2.1,.int .i64 p.2.1.2.2.2.1,.lit cArray p.2.1.2.2.2.2.1,.lit cScalar p.2.1.2.2.2.2.2.1,.lit cArray p.2.1.2.2.2.2.2.2.1,.lit cItv p.2.1.2.2.2.2.2.2.2]],⟨[.opn [.lit cInstr p.2.2.1.1,.int .i64 p.2.2.1.2.1,.int .i64 p.2.2.1.2.2.1,.int .i64 p.2.2.1.2.2.2.1,.lit cArray p.2.2.1.2.2.2.2.1,.lit cScalar p.2.2.1.2.2.2.2.2.1,.lit cArray p.2.2.1.2.2.2.2.2.2.1,.lit cItv p.2.2.1.2.2.2.2.2.2.2,.all 1,.all 2],.cells (.int .i64) p.2.2.2.1,.cells (.int .i64) p.2.2.2.2.1,.cells cMark e.1,.cells cItv e.2],0⟩,0⟩) (fun e=>K (.exit 2) ⟨[(1,.loc 0 0),(3,.v (.ptr 0 0)),(4,.v (.all 3)),(5,.v (.all 4)),(6,.v (.pel 4 p.1 0))],[[.lit cInstr p.2.1.1,.int .i64 p.2.1.2.1,.int .i64 p.2.1.2.2.1,.int .i64 p.2.1.2.2.2.1,.lit cArray p.2.1.2.2.2.2.1,.lit cScalar p.2.1.2.2.2.2.2.1,.lit cArray p.2.1.2.2.2.2.2.2.1,.lit cItv p.2.1.2.2.2.2.2.2.2]],⟨[.opn [.lit cInstr p.2.2.1.1,.int .i64 p.2.2.1.2.1,.int .i64 p.2.2.1.2.2.1,.int .i64 p.2.2.1.2.2.2.1,.lit cArray p.2.2.1.2.2.2.2.1,.lit cScalar p.2.2.1.2.2.2.2.2.1,.lit cArray p.2.2.1.2.2.2.2.2.2.1,.lit cItv p.2.2.1.2.2.2.2.2.2.2,.all 1,.all 2],.cells (.int .i64) p.2.2.2.1,.cells (.int .i64) p.2.2.2.2.1,.cells cMark p.2.2.2.2.2,.cells cItv e],0⟩,0⟩) e
 pol:=⟨[1,3,4,5,6],[],[],[]⟩
 pe:=[(.exit 1,⟨[1,3,4,5],[],[],[]⟩),(.exit 2,⟨[1,3,4,5,6],[],[],[]⟩)]
def f115_l5:LD (TGraph×TGraph×(List Int)) ((List Int)×(List TMark)×(List TItv)) ((List Int)) where
 sk:=⟨[(1,.loc 0 0),(3,.v (.ptr 0 0)),(4,.v (.all 3)),(5,.v (.all 4))],[kG],[.opn (.cons (.lit cInstr) (.cons (.int .i64) (.cons (.int .i64) (.cons (.int .i64) (.cons (.lit cArray) (.cons (.lit cScalar) (.cons (.lit cArray) (.cons (.lit cItv) (.cons (.all 1) (.cons (.all 2) .nil)))))))))),.cells (.int .i64),.cells (.int .i64),.cells cMark,.cells cItv],0,0⟩
 p:=fun u=>((q8 u.2.1.1),(q8 u.2.2.1),u.2.2.2.2.1)
 t:=fun u=>(u.2.2.2.1,u.2.2.2.2.2.1,u.2.2.2.2.2.2.1)
 n:=fun p t=>(((),((),((),()))),(((w8 p.1),()),((p.2.1.1,(p.2.1.2.1,(p.2.1.2.2.1,(p.2.1.2.2.2.1,(p.2.1.2.2.2.2.1,(p.2.1.2.2.2.2.2.1,(p.2.1.2.2.2.2.2.2.1,(p.2.1.2.2.2.2.2.2.2,((),((),())))))))))),(t.1,(p.2.2,(t.2.1,(t.2.2,())))))))
 st:=fun Y p t ki ke=>cond (decide ((0:Int)<(nt (List.length t.2.2))))
  (ask (V.inRange (wi64 ((nt (List.length t.2.2))-(1:Int))) (List.length t.2.2)) ((loopAll (f115_l7.m ((Int.toNat (wi64 ((nt (List.length t.2.2))-(1:Int)))),p.1,p.2.1,t.1,p.2.2,t.2.1)) t.2.2).bind fun e1=>
  Sum.elim (fun e2=>ki (t.1,e2.1,e2.2))
  (fun e3=>ask (V.inRange (gx e3 (Int.toNat (wi64 ((nt (List.length t.2.2))-(1:Int)))) dItv).1 (List.length t.2.1)) (ask (decide (((List.length t.1)+(List.length ([(gx e3 (Int.toNat (wi64 ((nt (List.length t.2.2))-(1:Int)))) dItv).1]:List Int))) * 8<=70368744177664)&&decide (((List.length t.1)+(List.length ([(gx e3 (Int.toNat (wi64 ((nt (List.length t.2.2))-(1:Int)))) dItv).1]:List Int)))<9223372036854775808)) (ask (decide (0<=(0:Int))&&decide ((0:Int)<=(wi64 ((nt (List.length e3))-(1:Int))))&&decide ((wi64 ((nt (List.length e3))-(1:Int)))<=(nt (List.length e3)))) (ki ((t.1++([(gx e3 (Int.toNat (wi64 ((nt (List.length t.2.2))-(1:Int)))) dItv).1]:List Int)),(List.set t.2.1 (Int.toNat (gx e3 (Int.toNat (wi64 ((nt (List.length t.2.2))-(1:Int)))) dItv).1) ((gx t.2.1 (Int.toNat (gx e3 (Int.toNat (wi64 ((nt (List.length t.2.2))-(1:Int)))) dItv).1) dMark).1,true)),(List.take (Int.toNat (wi64 ((nt (List.length e3))-(1:Int)))-0) e3)))))) e1))
  (ke (t.1))
 o:=fun Z p e K=>K (.exit 0) ⟨[(3,.v (.ptr 0 0))],[],⟨[.opn [.lit cInstr p.2.1.1,.int .i64 p.2.1.2.1,.int .i64 p.2.1.2.2.1,.int .i64 p.2.1.2.2.2.1,.lit cArray p.2.1.2.2.2.2.1,.lit cScalar p.2.1.2.2.2.2.2.1,.lit cArray p.2.1.2.2.2.2.2.2.1,.lit cItv p.2.1.2.2.2.2.2.2.2,.all 1,.all 2],.cells (.int .i64) e,.cells (.int .i64) p.2.2],0⟩,0⟩
 pol:=⟨[1,3,4,5],[(5,(.own cItv))],[],[(0,[.any,.any,.any,.any,.any,.any,.any,.any,(.own (.int .i64)),.any])]⟩
 pe:=[(.exit 0,⟨[3],[],[],[]⟩)]
def f115_l18:LD (Int×TGraph×(List Int)) (Int×(List Int)) ((List Int)) where
 sk:=⟨[(3,.v (.ptr 0 0)),(114,.v (.int .i64)),(115,.v (.int .i64))],[],[.opn (.cons (.lit cInstr) (.cons (.int .i64) (.cons (.int .i64) (.cons (.int .i64) (.cons (.lit cArray) (.cons (.lit cScalar) (.cons (.lit cArray) (.cons (.lit cItv) (.cons (.all 1) (.cons (.all 2) .nil)))))))))),.cells (.int .i64),.cells (.int .i64)],0,0⟩
 p:=fun u=>(u.1.2.1,(q8 u.2.2.1),u.2.2.2.1)
 t:=fun u=>(u.1.2.2.1,u.2.2.2.2.1)
 n:=fun p t=>(((),(p.1,(t.1,()))),((),((p.2.1.1,(p.2.1.2.1,(p.2.1.2.2.1,(p.2.1.2.2.2.1,(p.2.1.2.2.2.2.1,(p.2.1.2.2.2.2.2.1,(p.2.1.2.2.2.2.2.2.1,(p.2.1.2.2.2.2.2.2.2,((),((),())))))))))),(p.2.2,(t.2,())))))
 st:=fun Y p t ki ke=>cond (decide (t.1<p.1))
  (ask (V.inRange t.1 (List.length t.2)) (ki ((wi64 (t.1+(1:Int))),(List.set t.2 (Int.toNat t.1) (-1)))))
  (ke (t.2))
 o:=fun Z p e K=>K (.exit 4) ⟨[(3,.v (.ptr 0 0))],[],⟨[.opn [.lit cInstr p.2.1.1,.int .i64 p.2.1.2.1,.int .i64 p.2.1.2.2.1,.int .i64 p.2.1.2.2.2.1,.lit cArray p.2.1.2.2.2.2.1,.lit cScalar p.2.1.2.2.2.2.2.1,.lit cArray p.2.1.2.2.2.2.2.2.1,.lit cItv p.2.1.2.2.2.2.2.2.2,.all 1,.all 2],.cells (.int .i64) p.2.2,.cells (.int .i64) e],0⟩,0⟩
 pol:=⟨[3,114,115],[],[],[]⟩
 pe:=[(.exit 4,⟨[3],[],[],[]⟩)]
def f115_l23:LD (Int×TGraph×(List Int)) (Int×(List Int)) ((List Int)) where
 sk:=⟨[(3,.v (.ptr 0 0)),(128,.v (.all 1)),(129,.v (.int .i64)),(130,.v (.int .i64))],[],[.opn (.cons (.lit cInstr) (.cons (.int .i64) (.cons (.int .i64) (.cons (.int .i64) (.cons (.lit cArray) (.cons (.lit cScalar) (.cons (.lit cArray) (.cons (.lit cItv) (.cons (.all 1) (.cons (.all 2) .nil)))))))))),.cells (.int .i64),.cells (.int .i64)],0,0⟩
 p:=fun u=>(u.1.2.2.1,(q8 u.2.2.1),u.2.2.2.1)
 t:=fun u=>(u.1.2.2.2.1,u.2.2.2.2.1)
 n:=fun p t=>(((),((),(p.1,(t.1,())))),((),((p.2.1.1,(p.2.1.2.1,(p.2.1.2.2.1,(p.2.1.2.2.2.1,(p.2.1.2.2.2.2.1,(p.2.1.2.2.2.2.2.1,(p.2.1.2.2.2.2.2.2.1,(p.2.1.2.2.2.2.2.2.2,((),((),())))))))))),(p.2.2,(t.2,())))))
 st:=fun Y p t ki ke=>cond (decide (t.1<p.1))
  (ask (V.inRange t.1 (List.length p.2.2)) (ask (V.inRange (gx p.2.2 (Int.toNat t.1) (0:Int)) (List.length t.2)) (ki ((wi64 (t.1+(1:Int))),(List.set t.2 (Int.toNat (gx p.2.2 (Int.toNat t.1) (0:Int))) t.1)))))
  (ke (t.2))
 o:=fun Z p e K=>K (.exit 6) ⟨[(3,.v (.ptr 0 0))],[],⟨[.opn [.lit cInstr p.2.1.1,.int .i64 p.2.1.2.1,.int .i64 p.2.1.2.2.1,.int .i64 p.2.1.2.2.2.1,.lit cArray p.2.1.2.2.2.2.1,.lit cScalar p.2.1.2.2.2.2.2.1,.lit cArray p.2.1.2.2.2.2.2.2.1,.lit cItv p.2.1.2.2.2.2.2.2.2,.all 1,.all 2],.cells (.int .i64) p.2.2,.cells (.int .i64) e],0⟩,0⟩
 pol:=⟨[3,128,129,130],[],[],[]⟩
 pe:=[(.exit 6,⟨[3],[],[],[]⟩)]
def f115_c {X:Type} (a:TGraph) (K:(List Int)×(List Int)->Option X):Option X:=
 ask (decide (0<=(nt (List.length a.1)))&&decide ((nt (List.length a.1))<=(nt (List.length a.1)))&&decide (8 * (nt (List.length a.1))<=70368744177664)&&decide ((nt (List.length a.1))<9223372036854775808)) (ask (decide (0<=(nt (List.length a.1)))&&decide ((nt (List.length a.1))<=(nt (List.length a.1)))&&decide (2 * (nt (List.length a.1))<=70368744177664)&&decide ((nt (List.length a.1))<9223372036854775808)) (ask (V.inRange 0 (List.length (List.replicate (Int.toNat (nt (List.length a.1))) ((false,false):TMark)))) ((loopAll (f115_l5.m (a,a,(List.replicate (Int.toNat (nt (List.length a.1))) (0:Int)))) ([],(List.set (List.replicate (Int.toNat (nt (List.length a.1))) ((false,false):TMark)) 0 (true,(gx (List.replicate (Int.toNat (nt (List.length a.1))) ((false,false):TMark)) 0 dMark).2)),([(0,0)]:List TItv))).bind fun e1=>
 (f156_m e1).bind fun r2=>
 (loopAll (f115_l18.m ((nt (List.length (List.replicate (Int.toNat (nt (List.length a.1))) (0:Int)))),a,r2)) (0,(List.replicate (Int.toNat (nt (List.length a.1))) (0:Int)))).bind fun e3=>
 (loopAll (f115_l23.m ((nt (List.length r2)),a,r2)) (0,e3)).bind fun e4=>
 K (r2,e4))))
def f115_m (a:TGraph):Option ((List Int)×(List Int)):=f115_c a some
def f115_sp:Spec:=f115_s.sp f115_m
noncomputable def f115_e:Env:=⟨fun k=>[].contains k,callsL [(156,f156_sp)],fun X k s K=>if k=7 then f115_l7.q X s K else if k=5 then f115_l5.q X s K else if k=18 then f115_l18.q X s K else if k=23 then f115_l23.q X s K else none⟩
noncomputable def f115_l7_c:Code:=subAt [1,0,1,1,1,1,1,0,0,0,1,0,1,0,0,0] (bodyOf Tryz.f115)
theorem f115_l7_ok (hc:SimCall C f115_e.call):LoopSim f115_e.loop (vc par C true [1] 144) (.loop f115_l7_c):=
 lO hc f115_l7 (by intros;simp only [f115_l7,LD.m,nn])
noncomputable def f115_l5_c:Code:=subAt [1,0,1,1,1,1,1,0,0,0] (bodyOf Tryz.f115)
theorem f115_l5_ok (hc:SimCall C f115_e.call):LoopSim f115_e.loop (vc par C true [1] 144) (.loop f115_l5_c):=
 lO hc f115_l5 (by intros;simp only [f115_l5,LD.m,nn]) (hl:=(lp_of (by kernel_rfl) (lp_cons (f115_l7_ok hc) lp_nil)))
noncomputable def f115_l18_c:Code:=subAt [1,0,1,1,1,1,1,1,1,0,1,0,0] (bodyOf Tryz.f115)
theorem f115_l18_ok (hc:SimCall C f115_e.call):LoopSim f115_e.loop (vc par C true [1] 144) (.loop f115_l18_c):=
 lO hc f115_l18 (by intros;simp only [f115_l18,LD.m,nn])
noncomputable def f115_l23_c:Code:=subAt [1,0,1,1,1,1,1,1,1,1,0,1,0,0] (bodyOf Tryz.f115)
theorem f115_l23_ok (hc:SimCall C f115_e.call):LoopSim f115_e.loop (vc par C true [1] 144) (.loop f115_l23_c):=
 lO hc f115_l23 (by intros;simp only [f115_l23,LD.m,nn])
theorem f115_ok:OK (2) 115 (f115_s.sp f115_m):=
 fO (d:=1) (env:=f115_e) (callsL_sim (cc f156_ok cn)) (fn:=Tryz.f115) (mc:=@f115_c) (by intros;simp only [f115_m,f115_c,nn]) (locs:=[1]) (hl:=fun hc=>(lp_of (by kernel_rfl) (lp_cons (f115_l5_ok hc) (lp_cons (f115_l18_ok hc) (lp_cons (f115_l23_ok hc) lp_nil)))))
def f58_s:FS (TGraph) ((List Int)) where
 sk:=⟨(.cons (.agg kG) .nil),[],0⟩
 a:=fun u=>(q8 u.1.1)
 n:=fun a=>(((w8 a),()),())
 o:=fun Z a r K=>K (.lit (.int .i64) r) ⟨[],0⟩
def f58_c {X:Type} (a:TGraph) (K:(List Int)->Option X):Option X:=
 (f115_m a).bind fun r1=>
 K r1.1
def f58_m (a:TGraph):Option ((List Int)):=f58_c a some
def f58_sp:Spec:=f58_s.sp f58_m
noncomputable def f58_e:Env:=⟨fun k=>[].contains k,callsL [(115,f115_sp)],fun X k s K=>none⟩
theorem f58_ok:OK (3) 58 (f58_s.sp f58_m):=
 fO (d:=2) (env:=f58_e) (callsL_sim (cc f115_ok cn)) (fn:=Tryz.f58) (mc:=@f58_c) (by intros;simp only [f58_m,f58_c,nn]) (locs:=[1]) (sh:=(.lit (.int .i64))) (fz:=true)
def f46_s:FS (TGraph×TMods) ((List (Int×TInstr))×(List (Int×TCongr))) where
 sk:=⟨(.cons (.agg kG) (.cons (.agg kM) .nil)),[],0⟩
 a:=fun u=>((q8 u.1.1),(q3 u.1.2.1))
 n:=fun a=>(((w8 a.1),((w3 a.2),())),())
 o:=fun Z a r K=>K (.ptr 0 0) ⟨[.opn [.lit cInstr a.1.1,.int .i64 a.1.2.1,.int .i64 a.1.2.2.1,.int .i64 a.1.2.2.2.1,.lit cArray a.1.2.2.2.2.1,.lit cScalar a.1.2.2.2.2.2.1,.lit cArray a.1.2.2.2.2.2.2.1,.lit cItv a.1.2.2.2.2.2.2.2,.bool a.2.1,.lit cCongr a.2.2.1,.lit cCongr a.2.2.2,.mp 1,.mp 2,.mp 3],.mapT (.int .i64) true cInstr r.1,.mapT (.int .i64) true cCongr r.2,.mapL (.int .i64) [((2:Int),.fn 85 []),((3:Int),.fn 87 []),((4:Int),.fn 89 []),((5:Int),.fn 90 []),((6:Int),.fn 91 []),((7:Int),.fn 92 []),((8:Int),.fn 93 []),((9:Int),.fn 83 []),((10:Int),.fn 83 [])]],0⟩
def f46_l3:LD ((List TInstr)×Int×(TGraph×TMods)×(List (Int×TCongr))) (Int×(List (Int×TInstr))) ((List (Int×TInstr))) where
 sk:=⟨[(5,.v (.ptr 0 0)),(16,.v (.lit cInstr)),(17,.v (.int .i64)),(18,.v (.int .i64))],[],[.opn (.cons (.lit cInstr) (.cons (.int .i64) (.cons (.int .i64) (.cons (.int .i64) (.cons (.lit cArray) (.cons (.lit cScalar) (.cons (.lit cArray) (.cons (.lit cItv) (.cons .bool (.cons (.lit cCongr) (.cons (.lit cCongr) (.cons (.mp 1) (.cons (.mp 2) (.cons .nilm .nil)))))))))))))),.mapT (.int .i64) true cInstr,.mapT (.int .i64) true cCongr],0,0⟩
 p:=fun u=>(u.1.2.1,u.1.2.2.1,((q8 u.2.2.1),(q3 u.2.2.1.2.2.2.2.2.2.2.2)),u.2.2.2.2.1)
 t:=fun u=>(u.1.2.2.2.1,u.2.2.2.1)
 n:=fun p t=>(((),(p.1,(p.2.1,(t.1,())))),((),((p.2.2.1.1.1,(p.2.2.1.1.2.1,(p.2.2.1.1.2.2.1,(p.2.2.1.1.2.2.2.1,(p.2.2.1.1.2.2.2.2.1,(p.2.2.1.1.2.2.2.2.2.1,(p.2.2.1.1.2.2.2.2.2.2.1,(p.2.2.1.1.2.2.2.2.2.2.2,(p.2.2.1.2.1,(p.2.2.1.2.2.1,(p.2.2.1.2.2.2,((),((),((),())))))))))))))),(t.2,(p.2.2.2,())))))
 st:=fun Y p t ki ke=>cond (decide (t.1<p.2.1))
  (ask (V.inRange t.1 (List.length p.1)) (cond (decide ((1:Int)<=(gx p.1 (Int.toNat t.1) dInstr).1))
  (cond (decide ((gx p.1 (Int.toNat t.1) dInstr).1<=(12:Int)))
  (ki ((wi64 (t.1+(1:Int))),(setT (k:=(.int .i64)) (gx p.1 (Int.toNat t.1) dInstr).2.1 (gx p.1 (Int.toNat t.1) dInstr) t.2)))
  (ki ((wi64 (t.1+(1:Int))),t.2)))
  (ki ((wi64 (t.1+(1:Int))),t.2))))
  (ke (t.2))
 o:=fun Z p e K=>K (.exit 0) ⟨[(5,.v (.ptr 0 0))],[],⟨[.opn [.lit cInstr p.2.2.1.1.1,.int .i64 p.2.2.1.1.2.1,.int .i64 p.2.2.1.1.2.2.1,.int .i64 p.2.2.1.1.2.2.2.1,.lit cArray p.2.2.1.1.2.2.2.2.1,.lit cScalar p.2.2.1.1.2.2.2.2.2.1,.lit cArray p.2.2.1.1.2.2.2.2.2.2.1,.lit cItv p.2.2.1.1.2.2.2.2.2.2.2,.bool p.2.2.1.2.1,.lit cCongr p.2.2.1.2.2.1,.lit cCongr p.2.2.1.2.2.2,.mp 1,.mp 2,.nilm],.mapT (.int .i64) true cInstr e,.mapT (.int .i64) true cCongr p.2.2.2],0⟩,0⟩
 pol:=⟨[5,16,17,18],[],[],[]⟩
 pe:=[(.exit 0,⟨[5],[],[],[]⟩)]
def f46_c {X:Type} (a:TGraph×TMods) (K:(List (Int×TInstr))×(List (Int×TCongr))->Option X):Option X:=
 (loopAll (f46_l3.m (a.1.1,(nt (List.length a.1.1)),a,([]:List (Int×TCongr)))) (0,([]:List (Int×TInstr)))).bind fun e1=>
 K (e1,([]:List (Int×TCongr)))
def f46_m (a:TGraph×TMods):Option ((List (Int×TInstr))×(List (Int×TCongr))):=f46_c a some
def f46_sp:Spec:=f46_s.sp f46_m
noncomputable def f46_e:Env:=⟨fun k=>[].contains k,callsL [],fun X k s K=>if k=3 then f46_l3.q X s K else none⟩
noncomputable def f46_l3_c:Code:=subAt [1,1,0,1,0,0] (bodyOf Tryz.f46)
theorem f46_l3_ok (hc:SimCall C f46_e.call):LoopSim f46_e.loop (vc par C true [2,3,7] 46) (.loop f46_l3_c):=
 lO hc f46_l3 (by intros;simp only [f46_l3,LD.m,nn])
theorem f46_ok:OK (1) 46 (f46_s.sp f46_m):=
 fO (d:=0) (env:=f46_e) (callsL_sim cn) (fn:=Tryz.f46) (mc:=@f46_c) (by intros;simp only [f46_m,f46_c,nn]) (locs:=[2,3,7]) (hl:=fun hc=>(lp_of (by kernel_rfl) (lp_cons (f46_l3_ok hc) lp_nil)))
def f49_s:FS (TMods) (Unit) where
 sk:=⟨(.cons (.agg kM) .nil),[],0⟩
 a:=fun u=>(q3 u.1.1)
 n:=fun a=>(((w3 a),()),())
 o:=fun Z a r K=>K (.agg [.bool a.1,.all 0,.all 1]) ⟨[.cells cCongr a.2.1,.cells cCongr a.2.2],0⟩
def f49_c {X:Type} (a:TMods) (K:Unit->Option X):Option X:=
 ask (decide ((List.length a.2.1) * 24<=70368744177664)&&decide ((List.length a.2.1)<9223372036854775808)) (ask (decide ((List.length a.2.2) * 24<=70368744177664)&&decide ((List.length a.2.2)<9223372036854775808)) (K ()))
def f49_m (a:TMods):Option (Unit):=f49_c a some
def f49_sp:Spec:=f49_s.sp f49_m
noncomputable def f49_e:Env:=⟨fun k=>[].contains k,callsL [],fun X k s K=>none⟩
theorem f49_ok:OK (1) 49 (f49_s.sp f49_m):=
 fO (d:=0) (env:=f49_e) (callsL_sim cn) (fn:=Tryz.f49) (mc:=@f49_c) (by intros;simp only [f49_m,f49_c,nn]) (locs:=[1,2]) (sh:=(.agg [.any,(.own cCongr),(.own cCongr)]))
def f84_s:FS (Unit) (Unit) where
 sk:=⟨.nil,[],0⟩
 a:=fun u=>()
 n:=fun a=>((),())
 o:=fun Z a r K=>K (.agg [.bool true,.int .i64 0,.int .i64 0]) ⟨[],0⟩
def f84_c {X:Type} (a:Unit) (K:Unit->Option X):Option X:=
 K ()
def f84_m (a:Unit):Option (Unit):=f84_c a some
def f84_sp:Spec:=f84_s.sp f84_m
noncomputable def f84_e:Env:=⟨fun k=>[].contains k,callsL [],fun X k s K=>none⟩
theorem f84_ok:OK (1) 84 (f84_s.sp f84_m):=
 fO (d:=0) (env:=f84_e) (callsL_sim cn) (fn:=Tryz.f84) (mc:=@f84_c) (by intros;simp only [f84_m,f84_c,nn]) (locs:=[0])
def f134_s:FS (Unit) (TCongr) where
 sk:=⟨.nil,[],0⟩
 a:=fun u=>()
 n:=fun a=>((),())
 o:=fun Z a r K=>K (.agg [.bool r.1,.int .i64 r.2.1,.int .i64 r.2.2]) ⟨[],0⟩
def f134_c {X:Type} (a:Unit) (K:TCongr->Option X):Option X:=
 (f122_m (1,0)).bind fun r1=>
 K r1
def f134_m (a:Unit):Option (TCongr):=f134_c a some
def f134_sp:Spec:=f134_s.sp f134_m
noncomputable def f134_e:Env:=⟨fun k=>[].contains k,callsL [(122,f122_sp)],fun X k s K=>none⟩
theorem f134_ok:OK (5) 134 (f134_s.sp f134_m):=
 fO (d:=4) (env:=f134_e) (callsL_sim (cc f122_ok cn)) (fn:=Tryz.f134) (mc:=@f134_c) (by intros;simp only [f134_m,f134_c,nn]) (locs:=[0])
def f98_s:FS (Int×Int) (TCongr) where
 sk:=⟨(.cons (.int .u64) (.cons (.int .i64) .nil)),[],0⟩
 a:=fun u=>(u.1.1,u.1.2.1)
 n:=fun a=>((a.1,(a.2,())),())
 o:=fun Z a r K=>K (.agg [.bool r.1,.int .i64 r.2.1,.int .i64 r.2.2]) ⟨[],0⟩
def f98_c {X:Type} (a:Int×Int) (K:TCongr->Option X):Option X:=
 cond (decide (a.1=(0:Int)))
 ((f127_m a.2).bind fun r1=>
 K (r1.1,(0,r1.2)))
 ((f117_m (a.2,a.1)).bind fun r2=>
 (f132_m (a.1,r2)).bind fun r3=>
 K r3)
def f98_m (a:Int×Int):Option (TCongr):=f98_c a some
def f98_sp:Spec:=f98_s.sp f98_m
noncomputable def f98_e:Env:=⟨fun k=>[].contains k,callsL [(127,f127_sp),(117,f117_sp),(132,f132_sp)],fun X k s K=>none⟩
theorem f98_ok:OK (4) 98 (f98_s.sp f98_m):=
 fO (d:=3) (env:=f98_e) (callsL_sim (cc f127_ok (cc f117_ok (cc f132_ok cn)))) (fn:=Tryz.f98) (mc:=@f98_c) (by intros;simp only [f98_m,f98_c,nn]) (locs:=[4])
def f86_s:FS (TCongr) (TCongr) where
 sk:=⟨(.cons (.agg kC) .nil),[],0⟩
 a:=fun u=>(q3 u.1.1)
 n:=fun a=>(((w3 a),()),())
 o:=fun Z a r K=>K (.agg [.bool r.1,.int .i64 r.2.1,.int .i64 r.2.2]) ⟨[],0⟩
def f86_c {X:Type} (a:TCongr) (K:TCongr->Option X):Option X:=
 cond a.1
 (K a)
 ((f98_m ((wu64 a.2.1),(wi64 ((0:Int)-a.2.2)))).bind fun r1=>
 K r1)
def f86_m (a:TCongr):Option (TCongr):=f86_c a some
def f86_sp:Spec:=f86_s.sp f86_m
noncomputable def f86_e:Env:=⟨fun k=>[].contains k,callsL [(98,f98_sp)],fun X k s K=>none⟩
theorem f86_ok:OK (5) 86 (f86_s.sp f86_m):=
 fO (d:=4) (env:=f86_e) (callsL_sim (cc f98_ok cn)) (fn:=Tryz.f86) (mc:=@f86_c) (by intros;simp only [f86_m,f86_c,nn]) (locs:=[1,2])
def f85_s:FS (TCongr×TCongr) (TCongr) where
 sk:=⟨(.cons (.agg kC) (.cons (.agg kC) .nil)),[],0⟩
 a:=fun u=>((q3 u.1.1),(q3 u.1.2.1))
 n:=fun a=>(((w3 a.1),((w3 a.2),())),())
 o:=fun Z a r K=>K (.agg [.bool r.1,.int .i64 r.2.1,.int .i64 r.2.2]) ⟨[],0⟩
def f85_c {X:Type} (a:TCongr×TCongr) (K:TCongr->Option X):Option X:=
 (f86_m a.1).bind fun r1=>
 K r1
def f85_m (a:TCongr×TCongr):Option (TCongr):=f85_c a some
def f85_sp:Spec:=f85_s.sp f85_m
noncomputable def f85_e:Env:=⟨fun k=>[].contains k,callsL [(86,f86_sp)],fun X k s K=>none⟩
theorem f85_ok:OK (6) 85 (f85_s.sp f85_m):=
 fO (d:=5) (env:=f85_e) (callsL_sim (cc f86_ok cn)) (fn:=Tryz.f85) (mc:=@f85_c) (by intros;simp only [f85_m,f85_c,nn]) (locs:=[2,3,4])
def f128_s:FS (Int×Int) (Int) where
 sk:=⟨(.cons (.int .u64) (.cons (.int .u64) .nil)),[],0⟩
 a:=fun u=>(u.1.1,u.1.2.1)
 n:=fun a=>((a.1,(a.2,())),())
 o:=fun Z a r K=>K (.int .u64 r) ⟨[],0⟩
def f128_l1:LD (Unit) (Int×Int) (Int) where
 sk:=⟨[(0,.v (.int .u64)),(1,.v (.int .u64))],[],[],0,0⟩
 p:=fun u=>()
 t:=fun u=>(u.1.1,u.1.2.1)
 n:=fun p t=>((t.1,(t.2,())),((),()))
 st:=fun Y p t ki ke=>cond (!(decide (t.2=(0:Int))))
  (cond (decide (t.2=(0:Int)))
  (none)
  (ki (t.2,(Int.tmod t.1 t.2))))
  (ke (t.1))
 o:=fun Z p e K=>K (.exit 0) ⟨[(0,.v (.int .u64 e))],[],⟨[],0⟩,0⟩
 pol:=⟨[0,1],[],[],[]⟩
 pe:=[(.exit 0,⟨[0],[],[],[]⟩)]
def f128_c {X:Type} (a:Int×Int) (K:Int->Option X):Option X:=
 (loopAll (f128_l1.m ()) (a.1,a.2)).bind fun e1=>
 K e1
def f128_m (a:Int×Int):Option (Int):=f128_c a some
def f128_sp:Spec:=f128_s.sp f128_m
noncomputable def f128_e:Env:=⟨fun k=>[].contains k,callsL [],fun X k s K=>if k=1 then f128_l1.q X s K else none⟩
noncomputable def f128_l1_c:Code:=subAt [1,0,0,0] (bodyOf Tryz.f128)
theorem f128_l1_ok (hc:SimCall C f128_e.call):LoopSim f128_e.loop (vc par C true [] 12) (.loop f128_l1_c):=
 lO hc f128_l1 (by intros;simp only [f128_l1,LD.m,nn])
theorem f128_ok:OK (1) 128 (f128_s.sp f128_m):=
 fO (d:=0) (env:=f128_e) (callsL_sim cn) (fn:=Tryz.f128) (mc:=@f128_c) (by intros;simp only [f128_m,f128_c,nn]) (hl:=fun hc=>(lp_of (by kernel_rfl) (lp_cons (f128_l1_ok hc) lp_nil)))
def f99_s:FS (TCongr×TCongr) (Int) where
 sk:=⟨(.cons (.agg kC) (.cons (.agg kC) .nil)),[],0⟩
 a:=fun u=>((q3 u.1.1),(q3 u.1.2.1))
 n:=fun a=>(((w3 a.1),((w3 a.2),())),())
 o:=fun Z a r K=>K (.int .u64 r) ⟨[],0⟩
def f99_c {X:Type} (a:TCongr×TCongr) (K:Int->Option X):Option X:=
 (f128_m ((wu64 a.1.2.1),(wu64 a.2.2.1))).bind fun r1=>
 (f129_m (wi64 (a.1.2.2-a.2.2.2))).bind fun r2=>
 (f128_m (r1,r2)).bind fun r3=>
 K r3
def f99_m (a:TCongr×TCongr):Option (Int):=f99_c a some
def f99_sp:Spec:=f99_s.sp f99_m
noncomputable def f99_e:Env:=⟨fun k=>[].contains k,callsL [(128,f128_sp),(129,f129_sp)],fun X k s K=>none⟩
theorem f99_ok:OK (2) 99 (f99_s.sp f99_m):=
 fO (d:=1) (env:=f99_e) (callsL_sim (cc f128_ok (cc f129_ok cn))) (fn:=Tryz.f99) (mc:=@f99_c) (by intros;simp only [f99_m,f99_c,nn]) (locs:=[2,3])
def f51_s:FS (TCongr×TCongr) (TCongr) where
 sk:=⟨(.cons (.agg kC) (.cons (.agg kC) .nil)),[],0⟩
 a:=fun u=>((q3 u.1.1),(q3 u.1.2.1))
 n:=fun a=>(((w3 a.1),((w3 a.2),())),())
 o:=fun Z a r K=>K (.agg [.bool r.1,.int .i64 r.2.1,.int .i64 r.2.2]) ⟨[],0⟩
def f51_c {X:Type} (a:TCongr×TCongr) (K:TCongr->Option X):Option X:=
 cond a.1.1
 (K a.2)
 (cond a.2.1
 (K a.1)
 ((f99_m (a.1,a.2)).bind fun r1=>
 (f98_m (r1,a.1.2.2)).bind fun r2=>
 K r2))
def f51_m (a:TCongr×TCongr):Option (TCongr):=f51_c a some
def f51_sp:Spec:=f51_s.sp f51_m
noncomputable def f51_e:Env:=⟨fun k=>[].contains k,callsL [(99,f99_sp),(98,f98_sp)],fun X k s K=>none⟩
theorem f51_ok:OK (5) 51 (f51_s.sp f51_m):=
 fO (d:=4) (env:=f51_e) (callsL_sim (cc f99_ok (cc f98_ok cn))) (fn:=Tryz.f51) (mc:=@f51_c) (by intros;simp only [f51_m,f51_c,nn]) (locs:=[2,3,4])
def f88_s:FS (TCongr) (TCongr) where
 sk:=⟨(.cons (.agg kC) .nil),[],0⟩
 a:=fun u=>(q3 u.1.1)
 n:=fun a=>(((w3 a),()),())
 o:=fun Z a r K=>K (.agg [.bool r.1,.int .i64 r.2.1,.int .i64 r.2.2]) ⟨[],0⟩
def f88_c {X:Type} (a:TCongr) (K:TCongr->Option X):Option X:=
 cond a.1
 (cond (decide (a.2.2<(0:Int)))
 ((f127_m (wi64 ((0:Int)-a.2.2))).bind fun r1=>
 K (r1.1,(0,r1.2)))
 (K a))
 (cond (decide (a.2.1=(0:Int)))
 (cond (decide (a.2.2<(0:Int)))
 ((f127_m (wi64 ((0:Int)-a.2.2))).bind fun r2=>
 K (r2.1,(0,r2.2)))
 (K a))
 ((f86_m a).bind fun r3=>
 (f51_m (a,r3)).bind fun r4=>
 K r4))
def f88_m (a:TCongr):Option (TCongr):=f88_c a some
def f88_sp:Spec:=f88_s.sp f88_m
noncomputable def f88_e:Env:=⟨fun k=>[].contains k,callsL [(127,f127_sp),(86,f86_sp),(51,f51_sp)],fun X k s K=>none⟩
theorem f88_ok:OK (6) 88 (f88_s.sp f88_m):=
 fO (d:=5) (env:=f88_e) (callsL_sim (cc f127_ok (cc f86_ok (cc f51_ok cn)))) (fn:=Tryz.f88) (mc:=@f88_c) (by intros;simp only [f88_m,f88_c,nn]) (locs:=[1,2])
def f87_s:FS (TCongr×TCongr) (TCongr) where
 sk:=⟨(.cons (.agg kC) (.cons (.agg kC) .nil)),[],0⟩
 a:=fun u=>((q3 u.1.1),(q3 u.1.2.1))
 n:=fun a=>(((w3 a.1),((w3 a.2),())),())
 o:=fun Z a r K=>K (.agg [.bool r.1,.int .i64 r.2.1,.int .i64 r.2.2]) ⟨[],0⟩
def f87_c {X:Type} (a:TCongr×TCongr) (K:TCongr->Option X):Option X:=
 (f88_m a.1).bind fun r1=>
 K r1
def f87_m (a:TCongr×TCongr):Option (TCongr):=f87_c a some
def f87_sp:Spec:=f87_s.sp f87_m
noncomputable def f87_e:Env:=⟨fun k=>[].contains k,callsL [(88,f88_sp)],fun X k s K=>none⟩
theorem f87_ok:OK (7) 87 (f87_s.sp f87_m):=
 fO (d:=6) (env:=f87_e) (callsL_sim (cc f88_ok cn)) (fn:=Tryz.f87) (mc:=@f87_c) (by intros;simp only [f87_m,f87_c,nn]) (locs:=[2,3,4])
def f89_s:FS (TCongr×TCongr) (TCongr) where
 sk:=⟨(.cons (.agg kC) (.cons (.agg kC) .nil)),[],0⟩
 a:=fun u=>((q3 u.1.1),(q3 u.1.2.1))
 n:=fun a=>(((w3 a.1),((w3 a.2),())),())
 o:=fun Z a r K=>K (.agg [.bool r.1,.int .i64 r.2.1,.int .i64 r.2.2]) ⟨[],0⟩
def f89_c {X:Type} (a:TCongr×TCongr) (K:TCongr->Option X):Option X:=
 cond a.1.1
 (K (true,(0,0)))
 (cond a.2.1
 (K (true,(0,0)))
 ((f128_m ((wu64 a.1.2.1),(wu64 a.2.2.1))).bind fun r1=>
 (f98_m (r1,(wi64 (a.1.2.2+a.2.2.2)))).bind fun r2=>
 K r2))
def f89_m (a:TCongr×TCongr):Option (TCongr):=f89_c a some
def f89_sp:Spec:=f89_s.sp f89_m
noncomputable def f89_e:Env:=⟨fun k=>[].contains k,callsL [(124,f124_sp),(128,f128_sp),(98,f98_sp)],fun X k s K=>none⟩
theorem f89_ok:OK (5) 89 (f89_s.sp f89_m):=
 fO (d:=4) (env:=f89_e) (callsL_sim (cc f124_ok (cc f128_ok (cc f98_ok cn)))) (fn:=Tryz.f89) (mc:=@f89_c) (by intros;simp only [f89_m,f89_c,nn]) (locs:=[2,3,4])
def f90_s:FS (TCongr×TCongr) (TCongr) where
 sk:=⟨(.cons (.agg kC) (.cons (.agg kC) .nil)),[],0⟩
 a:=fun u=>((q3 u.1.1),(q3 u.1.2.1))
 n:=fun a=>(((w3 a.1),((w3 a.2),())),())
 o:=fun Z a r K=>K (.agg [.bool r.1,.int .i64 r.2.1,.int .i64 r.2.2]) ⟨[],0⟩
def f90_c {X:Type} (a:TCongr×TCongr) (K:TCongr->Option X):Option X:=
 cond a.1.1
 (K (true,(0,0)))
 (cond a.2.1
 (K (true,(0,0)))
 ((f128_m ((wu64 a.1.2.1),(wu64 a.2.2.1))).bind fun r1=>
 (f98_m (r1,(wi64 (a.1.2.2-a.2.2.2)))).bind fun r2=>
 K r2))
def f90_m (a:TCongr×TCongr):Option (TCongr):=f90_c a some
def f90_sp:Spec:=f90_s.sp f90_m
noncomputable def f90_e:Env:=⟨fun k=>[].contains k,callsL [(124,f124_sp),(128,f128_sp),(98,f98_sp)],fun X k s K=>none⟩
theorem f90_ok:OK (5) 90 (f90_s.sp f90_m):=
 fO (d:=4) (env:=f90_e) (callsL_sim (cc f124_ok (cc f128_ok (cc f98_ok cn)))) (fn:=Tryz.f90) (mc:=@f90_c) (by intros;simp only [f90_m,f90_c,nn]) (locs:=[2,3,4])
def f148_s:FS (Int×Int) (Int×Int) where
 sk:=⟨(.cons (.int .u64) (.cons (.int .u64) .nil)),[],0⟩
 a:=fun u=>(u.1.1,u.1.2.1)
 n:=fun a=>((a.1,(a.2,())),())
 o:=fun Z a r K=>K (.tup [.int .u64 r.1,.int .u64 r.2]) ⟨[],0⟩
def f148_c {X:Type} (a:Int×Int) (K:(Int×Int)->Option X):Option X:=
 K ((wu64 ((wu64 ((wu64 ((Int.fdiv a.1 (2^min 32 64)) * (Int.fdiv a.2 (2^min 32 64))))+(Int.fdiv (wu64 ((wu64 ((Int.fdiv a.1 (2^min 32 64)) * (bits_and .u64 a.2 4294967295)))+(Int.fdiv (wu64 ((bits_and .u64 a.1 4294967295) * (bits_and .u64 a.2 4294967295))) (2^min 32 64)))) (2^min 32 64))))+(Int.fdiv (wu64 ((bits_and .u64 (wu64 ((wu64 ((Int.fdiv a.1 (2^min 32 64)) * (bits_and .u64 a.2 4294967295)))+(Int.fdiv (wu64 ((bits_and .u64 a.1 4294967295) * (bits_and .u64 a.2 4294967295))) (2^min 32 64)))) 4294967295)+(wu64 ((bits_and .u64 a.1 4294967295) * (Int.fdiv a.2 (2^min 32 64)))))) (2^min 32 64)))),(wu64 (a.1 * a.2)))
def f148_m (a:Int×Int):Option (Int×Int):=f148_c a some
def f148_sp:Spec:=f148_s.sp f148_m
noncomputable def f148_e:Env:=⟨fun k=>[].contains k,callsL [],fun X k s K=>none⟩
theorem f148_ok:OK (1) 148 (f148_s.sp f148_m):=
 fO (d:=0) (env:=f148_e) (callsL_sim cn) (fn:=Tryz.f148) (mc:=@f148_c) (by intros;simp only [f148_m,f148_c,nn])
def f130_s:FS (Int×Int) (TProduct) where
 sk:=⟨kI,[],0⟩
 a:=fun u=>(u.1.1,u.1.2.1)
 n:=fun a=>((a.1,(a.2,())),())
 o:=fun Z a r K=>K (.agg [.int .u64 r.1.1,.int .u64 r.1.2,.bool r.2]) ⟨[],0⟩
def f130_c {X:Type} (a:Int×Int) (K:TProduct->Option X):Option X:=
 (f129_m a.1).bind fun r1=>
 (f129_m a.2).bind fun r2=>
 K (((wu64 ((wu64 ((wu64 ((Int.fdiv r1 (2^min 32 64)) * (Int.fdiv r2 (2^min 32 64))))+(Int.fdiv (wu64 ((wu64 ((Int.fdiv r1 (2^min 32 64)) * (bits_and .u64 r2 4294967295)))+(Int.fdiv (wu64 ((bits_and .u64 r1 4294967295) * (bits_and .u64 r2 4294967295))) (2^min 32 64)))) (2^min 32 64))))+(Int.fdiv (wu64 ((bits_and .u64 (wu64 ((wu64 ((Int.fdiv r1 (2^min 32 64)) * (bits_and .u64 r2 4294967295)))+(Int.fdiv (wu64 ((bits_and .u64 r1 4294967295) * (bits_and .u64 r2 4294967295))) (2^min 32 64)))) 4294967295)+(wu64 ((bits_and .u64 r1 4294967295) * (Int.fdiv r2 (2^min 32 64)))))) (2^min 32 64)))),(wu64 (r1 * r2))),(!((decide (a.1<(0:Int)))==(decide (a.2<(0:Int))))))
def f130_m (a:Int×Int):Option (TProduct):=f130_c a some
def f130_sp:Spec:=f130_s.sp f130_m
noncomputable def f130_e:Env:=⟨fun k=>[].contains k,callsL [(129,f129_sp),(148,f148_sp)],fun X k s K=>none⟩
theorem f130_ok:OK (2) 130 (f130_s.sp f130_m):=
 fO (d:=1) (env:=f130_e) (callsL_sim (cc f129_ok (cc f148_ok cn))) (fn:=Tryz.f130) (mc:=@f130_c) (by intros;simp only [f130_m,f130_c,nn]) (locs:=[4])
def f171_s:FS (Int) (Int) where
 sk:=⟨(.cons (.int .u64) .nil),[],0⟩
 a:=fun u=>u.1.1
 n:=fun a=>((a,()),())
 o:=fun Z a r K=>K (.int .i64 r) ⟨[],0⟩
def f171_c {X:Type} (a:Int) (K:Int->Option X):Option X:=
 cond (decide ((4294967296:Int)<=a))
 (cond (decide ((65536:Int)<=(Int.fdiv a (2^min 32 64))))
 (cond (decide ((256:Int)<=(Int.fdiv (Int.fdiv a (2^min 32 64)) (2^min 16 64))))
 (ask (V.inRange (wu8 (Int.fdiv (Int.fdiv (Int.fdiv a (2^min 32 64)) (2^min 16 64)) (2^min 8 64))) (ByteArray.size (str len8))) (K (wi64 ((56:Int)+(wi64 (byteAt (str len8) (wu8 (Int.fdiv (Int.fdiv (Int.fdiv a (2^min 32 64)) (2^min 16 64)) (2^min 8 64)))))))))
 (ask (V.inRange (wu8 (Int.fdiv (Int.fdiv a (2^min 32 64)) (2^min 16 64))) (ByteArray.size (str len8))) (K (wi64 ((48:Int)+(wi64 (byteAt (str len8) (wu8 (Int.fdiv (Int.fdiv a (2^min 32 64)) (2^min 16 64))))))))))
 (cond (decide ((256:Int)<=(Int.fdiv a (2^min 32 64))))
 (ask (V.inRange (wu8 (Int.fdiv (Int.fdiv a (2^min 32 64)) (2^min 8 64))) (ByteArray.size (str len8))) (K (wi64 ((40:Int)+(wi64 (byteAt (str len8) (wu8 (Int.fdiv (Int.fdiv a (2^min 32 64)) (2^min 8 64)))))))))
 (ask (V.inRange (wu8 (Int.fdiv a (2^min 32 64))) (ByteArray.size (str len8))) (K (wi64 ((32:Int)+(wi64 (byteAt (str len8) (wu8 (Int.fdiv a (2^min 32 64)))))))))))
 (cond (decide ((65536:Int)<=a))
 (cond (decide ((256:Int)<=(Int.fdiv a (2^min 16 64))))
 (ask (V.inRange (wu8 (Int.fdiv (Int.fdiv a (2^min 16 64)) (2^min 8 64))) (ByteArray.size (str len8))) (K (wi64 ((24:Int)+(wi64 (byteAt (str len8) (wu8 (Int.fdiv (Int.fdiv a (2^min 16 64)) (2^min 8 64)))))))))
 (ask (V.inRange (wu8 (Int.fdiv a (2^min 16 64))) (ByteArray.size (str len8))) (K (wi64 ((16:Int)+(wi64 (byteAt (str len8) (wu8 (Int.fdiv a (2^min 16 64))))))))))
 (cond (decide ((256:Int)<=a))
 (ask (V.inRange (wu8 (Int.fdiv a (2^min 8 64))) (ByteArray.size (str len8))) (K (wi64 ((8:Int)+(wi64 (byteAt (str len8) (wu8 (Int.fdiv a (2^min 8 64)))))))))
 (ask (V.inRange (wu8 a) (ByteArray.size (str len8))) (K (wi64 ((0:Int)+(wi64 (byteAt (str len8) (wu8 a)))))))))
def f171_m (a:Int):Option (Int):=f171_c a some
def f171_sp:Spec:=f171_s.sp f171_m
noncomputable def f171_e:Env:=⟨fun k=>[].contains k,callsL [],fun X k s K=>none⟩
theorem f171_ok:OK (1) 171 (f171_s.sp f171_m):=
 fO (d:=0) (env:=f171_e) (callsL_sim cn) (fn:=Tryz.f171) (mc:=@f171_c) (by intros;simp only [f171_m,f171_c,nn])
end
end Go.U
end
