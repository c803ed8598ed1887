/- The functions of the program as Lean functions, and that the evaluator says so. -/
import Derived.Test.YtcbcifeaalkdfaaGreatDoorC4
set_option linter.unusedVariables false
set_option linter.unusedSimpArgs false
set_option linter.unusedSectionVars false
section
set_option maxRecDepth 100000
namespace Go.U
open Go Go.Proofs
noncomputable section
def f63_s:FS (TMods×TMods) (Unit) where
 sk:=⟨(.cons (.ptr 0 0) (.cons (.agg (.cons .bool (.cons (.lit cCongr) (.cons (.lit cCongr) .nil)))) .nil)),[.opn (.cons .bool (.cons (.lit cCongr) (.cons (.lit cCongr) .nil)))],0⟩
 a:=fun u=>((u.1.2.1.1,(u.1.2.1.2.1,u.1.2.1.2.2.1)),(u.2.1.1,(u.2.1.2.1,u.2.1.2.2.1)))
 n:=fun a=>(((),((a.1.1,(a.1.2.1,(a.1.2.2,()))),())),((a.2.1,(a.2.2.1,(a.2.2.2,()))),()))
 o:=fun Z a r K=>K (.fn 116 [.ptr 1 0,.ptr 2 0]) ⟨[.opn [.bool a.2.1,.lit cCongr a.2.2.1,.lit cCongr a.2.2.2],.opn [.ptr 0 0],.opn [.bool a.1.1,.lit cCongr a.1.2.1,.lit cCongr a.1.2.2]],0⟩
def f63_c {X:Type} (a:TMods×TMods) (K:Unit→Option X):Option X:=
 K ()
def f63_m (a:TMods×TMods):Option (Unit):=f63_c a some
def f63_sp:Spec:=f63_s.sp f63_m
noncomputable def f63_e:Env:=⟨fun k=>[].contains k,callsL [],fun X k s K=>none⟩
theorem f63_ok:OK (1) 63 (f63_s.sp f63_m):=
 fnOK (d:=0) (env:=f63_e) (callsL_sim cn) (fn:=Tryz.f63) (locs:=[]) (sh:= .any) (fz:=false) (by kernel_rfl) (fun hc=>(lp_of (by kernel_rfl) lp_nil)) (mc:=fun X a K=>f63_c a K) (fun _ _ _=>by kernel_rfl) (by intros;simp only [f63_m,f63_c,n1,n2,n3,n4,n5,n6,n7,n8]) (fun _=>rfl)
def f27_s:FS (TCongr×TCongr) (Bool) where
 sk:=⟨(.cons (.agg (.cons .bool (.cons (.int .i64) (.cons (.int .i64) .nil)))) (.cons (.agg (.cons .bool (.cons (.int .i64) (.cons (.int .i64) .nil)))) .nil)),[],0⟩
 a:=fun u=>((u.1.1.1,(u.1.1.2.1,u.1.1.2.2.1)),(u.1.2.1.1,(u.1.2.1.2.1,u.1.2.1.2.2.1)))
 n:=fun a=>(((a.1.1,(a.1.2.1,(a.1.2.2,()))),((a.2.1,(a.2.2.1,(a.2.2.2,()))),())),())
 o:=fun Z a r K=>K (.bool r) ⟨[],0⟩
def f27_c {X:Type} (a:TCongr×TCongr) (K:Bool→Option X):Option X:=
 cond a.1.1
 (K true)
 (cond (!a.2.1)
 ((f51_m (a.1,a.2)).bind fun r1=>
 K ((r1.1==a.2.1)&&((decide (r1.2.1=a.2.2.1))&&((decide (r1.2.2=a.2.2.2))&&true))))
 (K false))
def f27_m (a:TCongr×TCongr):Option (Bool):=f27_c a some
def f27_sp:Spec:=f27_s.sp f27_m
noncomputable def f27_e:Env:=⟨fun k=>[].contains k,callsL [(51,f51_sp)],fun X k s K=>none⟩
theorem f27_ok:OK (6) 27 (f27_s.sp f27_m):=
 fnOK (d:=5) (env:=f27_e) (callsL_sim (cc f51_ok cn)) (fn:=Tryz.f27) (locs:=[2,3]) (sh:= .any) (fz:=false) (by kernel_rfl) (fun hc=>(lp_of (by kernel_rfl) lp_nil)) (mc:=fun X a K=>f27_c a K) (fun _ _ _=>by kernel_rfl) (by intros;simp only [f27_m,f27_c,n1,n2,n3,n4,n5,n6,n7,n8]) (fun _=>rfl)
def y250004_s:FS (TCongr×TCongr×Bool) ((Unit) ⊕ (Unit)) where
 sk:=⟨(.cons (.yl 0) (.cons (.eptr (.cons .bool (.cons (.int .i64) (.cons (.int .i64) .nil)))) (.cons (.agg (.cons .bool (.cons (.int .i64) (.cons (.int .i64) .nil)))) .nil))),[.loop 250004 [(4,(.ptr 1 0))] .ready .normal,.opn (.cons .bool .nil)],0⟩
 a:=fun u=>((u.1.2.1.1,(u.1.2.1.2.1,u.1.2.1.2.2.1)),(u.1.2.2.1.1,(u.1.2.2.1.2.1,u.1.2.2.1.2.2.1)),u.2.2.1.1)
 n:=fun a=>(((),((a.1.1,(a.1.2.1,(a.1.2.2,()))),((a.2.1.1,(a.2.1.2.1,(a.2.1.2.2,()))),()))),(((),()),((a.2.2,()),())))
 o:=fun Z a r K=>Sum.elim (fun e=>K (.bool false) ⟨[.loop 250004 [(4,.ptr 1 0)] .done .ret,.opn [.bool false]],0⟩) (fun e=>K (.bool true) ⟨[.loop 250004 [(4,.ptr 1 0)] .ready .normal,.opn [.bool a.2.2]],0⟩) r
def y250004_c {X:Type} (a:TCongr×TCongr×Bool) (K:(Unit) ⊕ (Unit)→Option X):Option X:=
 (f27_m (a.1,a.2.1)).bind fun r1=>
 cond (!r1)
 (K (.inl ()))
 (K (.inr (())))
def y250004_m (a:TCongr×TCongr×Bool):Option ((Unit) ⊕ (Unit)):=y250004_c a some
def y250004_sp:Spec:=y250004_s.sp y250004_m
noncomputable def y250004_e:Env:=⟨fun k=>[].contains k,callsL [(27,f27_sp)],fun X k s K=>none⟩
theorem y250004_ok:OKY (7) y250004_sp:=
 ylOK (d:=6) (env:=y250004_e) (callsL_sim (cc f27_ok cn)) (id:=250004) (r:=rfT 250004) rfl (fun hc=>(lp_of (by kernel_rfl) lp_nil)) (fun hc=>(lp_of (by kernel_rfl) lp_nil)) (mc:=fun X a K=>y250004_c a K) (fun _ _ _=>by kernel_rfl) (by intros;simp only [y250004_m,y250004_c,n1,n2,n3,n4,n5,n6,n7,n8]) (fun _=>rfl)
def f116_s:FS (TMods×TMods×Bool) ((Unit) ⊕ (Unit)) where
 sk:=⟨(.cons (.yl 3) (.cons (.ptr 0 0) (.cons (.ptr 2 0) .nil))),[.opn (.cons (.ptr 1 0) .nil),.opn (.cons .bool (.cons (.lit cCongr) (.cons (.lit cCongr) .nil))),.opn (.cons .bool (.cons (.lit cCongr) (.cons (.lit cCongr) .nil))),.loop 250004 [(4,(.ptr 4 0))] .ready .normal,.opn (.cons .bool .nil)],0⟩
 a:=fun u=>((u.2.2.1.1,(u.2.2.1.2.1,u.2.2.1.2.2.1)),(u.2.2.2.1.1,(u.2.2.2.1.2.1,u.2.2.2.1.2.2.1)),u.2.2.2.2.2.1.1)
 n:=fun a=>(((),((),((),()))),(((),()),((a.1.1,(a.1.2.1,(a.1.2.2,()))),((a.2.1.1,(a.2.1.2.1,(a.2.1.2.2,()))),(((),()),((a.2.2,()),()))))))
 o:=fun Z a r K=>Sum.elim (fun e=>K (.tup []) ⟨[.opn [.ptr 1 0],.opn [.bool a.1.1,.lit cCongr a.1.2.1,.lit cCongr a.1.2.2],.opn [.bool a.2.1.1,.lit cCongr a.2.1.2.1,.lit cCongr a.2.1.2.2],.loop 250004 [(4,.ptr 4 0)] .done .ret,.opn [.bool false]],0⟩) (fun e=>K (.tup []) ⟨[.opn [.ptr 1 0],.opn [.bool a.1.1,.lit cCongr a.1.2.1,.lit cCongr a.1.2.2],.opn [.bool a.2.1.1,.lit cCongr a.2.1.2.1,.lit cCongr a.2.1.2.2],.loop 250004 [(4,.ptr 4 0)] .ready .normal,.opn [.bool a.2.2]],0⟩) r
def f116_l1:LD (Int×(TMods×(TMods×Bool))) (Int) ((Unit) ⊕ (Unit)) where
 sk:=⟨[(0,.v (.yl 3)),(1,.v (.ptr 0 0)),(2,.v (.ptr 2 0)),(10,.v (.int .i64)),(11,.v (.int .i64))],[],[.opn (.cons (.ptr 1 0) .nil),.opn (.cons .bool (.cons (.lit cCongr) (.cons (.lit cCongr) .nil))),.opn (.cons .bool (.cons (.lit cCongr) (.cons (.lit cCongr) .nil))),.loop 250004 [(4,(.ptr 4 0))] .ready .normal,.opn (.cons .bool .nil)],0,5⟩
 p:=fun u=>(u.1.2.2.2.1,((u.2.2.2.1.1,(u.2.2.2.1.2.1,u.2.2.2.1.2.2.1)),((u.2.2.2.2.1.1,(u.2.2.2.2.1.2.1,u.2.2.2.2.1.2.2.1)),u.2.2.2.2.2.2.1.1)))
 t:=fun u=>u.1.2.2.2.2.1
 n:=fun p t=>(((),((),((),(p.1,(t,()))))),((),(((),()),((p.2.1.1,(p.2.1.2.1,(p.2.1.2.2,()))),((p.2.2.1.1,(p.2.2.1.2.1,(p.2.2.1.2.2,()))),(((),()),((p.2.2.2,()),())))))))
 st:=fun Y p t ki ke=>cond (decide (t<p.1))
  (ask (V.inRange t (List.length p.2.1.2.1)) (ask (V.inRange t (List.length p.2.2.1.2.1)) ((y250004_m ((gx p.2.1.2.1 (Int.toNat t) dCongr),(gx p.2.2.1.2.1 (Int.toNat t) dCongr),p.2.2.2)).bind fun r1=>
  Sum.elim (fun r2=>ke (.inl ()))
  (fun r3=>ki ((wi64 (t+(1:Int))))) r1)))
  (ke (.inr (())))
 o:=fun Z p e K=>Sum.elim (fun e=>K .ret ⟨[],[],⟨[.opn [.ptr 1 0],.opn [.bool p.2.1.1,.lit cCongr p.2.1.2.1,.lit cCongr p.2.1.2.2],.opn [.bool p.2.2.1.1,.lit cCongr p.2.2.1.2.1,.lit cCongr p.2.2.1.2.2],.loop 250004 [(4,.ptr 4 0)] .done .ret,.opn [.bool false]],0⟩,5⟩) (fun e=>K (.exit 0) ⟨[(0,.v (.yl 3)),(1,.v (.ptr 0 0)),(2,.v (.ptr 2 0))],[],⟨[.opn [.ptr 1 0],.opn [.bool p.2.1.1,.lit cCongr p.2.1.2.1,.lit cCongr p.2.1.2.2],.opn [.bool p.2.2.1.1,.lit cCongr p.2.2.1.2.1,.lit cCongr p.2.2.1.2.2],.loop 250004 [(4,.ptr 4 0)] .ready .normal,.opn [.bool p.2.2.2]],0⟩,5⟩) e
 pol:=⟨[0,1,2,10,11],[],[],[]⟩
 pe:=[(.ret,⟨[],[],[],[]⟩),(.exit 0,⟨[0,1,2],[],[],[]⟩)]
def f116_l6:LD (Int×(TMods×(TMods×Bool))) (Int) ((Unit) ⊕ (Unit)) where
 sk:=⟨[(0,.v (.yl 3)),(1,.v (.ptr 0 0)),(2,.v (.ptr 2 0)),(33,.v (.int .i64)),(34,.v (.int .i64))],[],[.opn (.cons (.ptr 1 0) .nil),.opn (.cons .bool (.cons (.lit cCongr) (.cons (.lit cCongr) .nil))),.opn (.cons .bool (.cons (.lit cCongr) (.cons (.lit cCongr) .nil))),.loop 250004 [(4,(.ptr 4 0))] .ready .normal,.opn (.cons .bool .nil)],0,5⟩
 p:=fun u=>(u.1.2.2.2.1,((u.2.2.2.1.1,(u.2.2.2.1.2.1,u.2.2.2.1.2.2.1)),((u.2.2.2.2.1.1,(u.2.2.2.2.1.2.1,u.2.2.2.2.1.2.2.1)),u.2.2.2.2.2.2.1.1)))
 t:=fun u=>u.1.2.2.2.2.1
 n:=fun p t=>(((),((),((),(p.1,(t,()))))),((),(((),()),((p.2.1.1,(p.2.1.2.1,(p.2.1.2.2,()))),((p.2.2.1.1,(p.2.2.1.2.1,(p.2.2.1.2.2,()))),(((),()),((p.2.2.2,()),())))))))
 st:=fun Y p t ki ke=>cond (decide (t<p.1))
  (ask (V.inRange t (List.length p.2.1.2.2)) (ask (V.inRange t (List.length p.2.2.1.2.2)) ((y250004_m ((gx p.2.1.2.2 (Int.toNat t) dCongr),(gx p.2.2.1.2.2 (Int.toNat t) dCongr),p.2.2.2)).bind fun r1=>
  Sum.elim (fun r2=>ke (.inl ()))
  (fun r3=>ki ((wi64 (t+(1:Int))))) r1)))
  (ke (.inr (())))
 o:=fun Z p e K=>Sum.elim (fun e=>K .ret ⟨[],[],⟨[.opn [.ptr 1 0],.opn [.bool p.2.1.1,.lit cCongr p.2.1.2.1,.lit cCongr p.2.1.2.2],.opn [.bool p.2.2.1.1,.lit cCongr p.2.2.1.2.1,.lit cCongr p.2.2.1.2.2],.loop 250004 [(4,.ptr 4 0)] .done .ret,.opn [.bool false]],0⟩,5⟩) (fun e=>K (.exit 2) ⟨[],[],⟨[.opn [.ptr 1 0],.opn [.bool p.2.1.1,.lit cCongr p.2.1.2.1,.lit cCongr p.2.1.2.2],.opn [.bool p.2.2.1.1,.lit cCongr p.2.2.1.2.1,.lit cCongr p.2.2.1.2.2],.loop 250004 [(4,.ptr 4 0)] .ready .normal,.opn [.bool p.2.2.2]],0⟩,5⟩) e
 pol:=⟨[0,1,2,33,34],[],[],[]⟩
 pe:=[(.ret,⟨[],[],[],[]⟩),(.exit 2,⟨[],[],[],[]⟩)]
def f116_c {X:Type} (a:TMods×TMods×Bool) (K:(Unit) ⊕ (Unit)→Option X):Option X:=
 (loopAll (f116_l1.m ((nt (List.length a.1.2.1)),a)) 0).bind fun e1=>
 Sum.elim (fun e2=>K (.inl ()))
 (fun e3=>(loopAll (f116_l6.m ((nt (List.length a.1.2.2)),a)) 0).bind fun e4=>
 Sum.elim (fun e5=>K (.inl ()))
 (fun e6=>K (.inr (()))) e4) e1
def f116_m (a:TMods×TMods×Bool):Option ((Unit) ⊕ (Unit)):=f116_c a some
def f116_sp:Spec:=f116_s.sp f116_m
noncomputable def f116_e:Env:=⟨fun k=>[].contains k,callsYL [] [(250004,y250004_sp)],fun X k s K=>if k=1 then f116_l1.q X s K else if k=6 then f116_l6.q X s K else none⟩
noncomputable def f116_l1_c:Code:=subAt [0,1,0,0] (bodyOf Tryz.f116)
theorem f116_l1_ok {C:V.Callee} (hc:SimCall C f116_e.call):LoopSim f116_e.loop (vc par C true [] 52) (.loop f116_l1_c):=
 loop_form glob_ok hc (lp_of (by kernel_rfl) lp_nil) f116_l1 (by kernel_rfl) (by intros;simp only [f116_l1,LD.m,n1,n2,n3,n4,n5,n6,n7,n8]) (fun _ _=>by kernel_rfl) (fun _=>rfl) (fun _ _ e _=>by rcases e with e|e<;>rfl) (fun _ _ _=>by kernel_rfl)
noncomputable def f116_l6_c:Code:=subAt [1,1,0,0] (bodyOf Tryz.f116)
theorem f116_l6_ok {C:V.Callee} (hc:SimCall C f116_e.call):LoopSim f116_e.loop (vc par C true [] 52) (.loop f116_l6_c):=
 loop_form glob_ok hc (lp_of (by kernel_rfl) lp_nil) f116_l6 (by kernel_rfl) (by intros;simp only [f116_l6,LD.m,n1,n2,n3,n4,n5,n6,n7,n8]) (fun _ _=>by kernel_rfl) (fun _=>rfl) (fun _ _ e _=>by rcases e with e|e<;>rfl) (fun _ _ _=>by kernel_rfl)
theorem f116_ok:OK (8) 116 (f116_s.sp f116_m):=
 fnOK (d:=7) (env:=f116_e) (callsYL_sim cn (ccy y250004_ok cyn)) (fn:=Tryz.f116) (locs:=[]) (sh:= .any) (fz:=false) (by kernel_rfl) (fun hc=>(lp_of (by kernel_rfl) (lp_cons (f116_l1_ok hc) (lp_cons (f116_l6_ok hc) lp_nil)))) (mc:=fun X a K=>f116_c a K) (fun _ _ _=>by kernel_rfl) (by intros;simp only [f116_m,f116_c,n1,n2,n3,n4,n5,n6,n7,n8]) (fun _=>rfl)
def f25_s:FS (TMods×TMods) (Bool) where
 sk:=⟨(.cons (.agg (.cons .bool (.cons (.lit cCongr) (.cons (.lit cCongr) .nil)))) (.cons (.agg (.cons .bool (.cons (.lit cCongr) (.cons (.lit cCongr) .nil)))) .nil)),[],0⟩
 a:=fun u=>((u.1.1.1,(u.1.1.2.1,u.1.1.2.2.1)),(u.1.2.1.1,(u.1.2.1.2.1,u.1.2.1.2.2.1)))
 n:=fun a=>(((a.1.1,(a.1.2.1,(a.1.2.2,()))),((a.2.1,(a.2.2.1,(a.2.2.2,()))),())),())
 o:=fun Z a r K=>K (.bool r) ⟨[],0⟩
def f25_q4:PD (Bool×(TMods×TMods)) ((Unit) ⊕ (Unit)) where
 sk:=⟨[(4,.v (.ptr 0 0)),(19,.v (.fn 116 (.cons (.ptr 1 0) (.cons (.ptr 3 0) .nil))))],[],[.opn (.cons .bool .nil),.opn (.cons (.ptr 2 0) .nil),.opn (.cons .bool (.cons (.lit cCongr) (.cons (.lit cCongr) .nil))),.opn (.cons .bool (.cons (.lit cCongr) (.cons (.lit cCongr) .nil)))],0,0⟩
 p:=fun u=>(u.2.2.1.1,((u.2.2.2.2.1.1,(u.2.2.2.2.1.2.1,u.2.2.2.2.1.2.2.1)),(u.2.2.2.2.2.1.1,(u.2.2.2.2.2.1.2.1,u.2.2.2.2.2.1.2.2.1))))
 n:=fun p=>(((),(((),((),())),())),((),((p.1,()),(((),()),((p.2.1.1,(p.2.1.2.1,(p.2.1.2.2,()))),((p.2.2.1,(p.2.2.2.1,(p.2.2.2.2,()))),()))))))
 st:=fun Y p ke=>(f116_m (p.2.1,p.2.2,p.1)).bind fun r1=>
  Sum.elim (fun r2=>ke (.inl ()))
  (fun r3=>ke (.inr (()))) r1
 o:=fun Z p e K=>Sum.elim (fun e=>K .ret ⟨[(4,.v (.ptr 0 0))],[],⟨[.opn [.bool false]],0⟩,0⟩) (fun e=>K .normal ⟨[(4,.v (.ptr 0 0))],[],⟨[.opn [.bool p.1]],0⟩,0⟩) e
 pol:=⟨[4,19],[],[],[]⟩
 pe:=[(.ret,⟨[4],[],[],[]⟩),(.normal,⟨[4],[],[],[]⟩)]
def f25_c {X:Type} (a:TMods×TMods) (K:Bool→Option X):Option X:=
 cond (!a.1.1)
 (K (!a.1.1))
 (cond (!a.2.1)
 (K (!a.1.1))
 ((f25_q4.m (false,a)).bind fun e1=>
 Sum.elim (fun e2=>K false)
 (fun e3=>K true) e1))
def f25_m (a:TMods×TMods):Option (Bool):=f25_c a some
def f25_sp:Spec:=f25_s.sp f25_m
noncomputable def f25_e:Env:=⟨fun k=>[].contains k,callsL [(63,f63_sp),(116,f116_sp)],fun X k s K=>if k=4 then f25_q4.q X s K else none⟩
theorem f25_q4_ok {C:V.Callee} (hc:SimCall C f25_e.call):LoopSim f25_e.loop (vc par C true [] 28) (.rangeFunc (rfG (subAt [1,1,0,1,0] (bodyOf Tryz.f25))) (rfPs (subAt [1,1,0,1,0] (bodyOf Tryz.f25))) (rfA (subAt [1,1,0,1,0] (bodyOf Tryz.f25))) (rfB (subAt [1,1,0,1,0] (bodyOf Tryz.f25)))):=
 range_form glob_ok (env:=f25_e) (env0:=f25_e) hc rfl (id:=250004) (ks:=[4]) (by kernel_rfl) f25_q4 (by kernel_rfl) (by intros;simp only [f25_q4,PD.m,n1,n2,n3,n4,n5,n6,n7,n8]) (fun _=>by kernel_rfl) (fun _=>rfl) (fun _ _ e _=>by rcases e with e|e<;>rfl) (fun _ _ _=>by kernel_rfl)
theorem f25_ok:OK (9) 25 (f25_s.sp f25_m):=
 fnOK (d:=8) (env:=f25_e) (callsL_sim (cc f63_ok (cc f116_ok cn))) (fn:=Tryz.f25) (locs:=[]) (sh:= .any) (fz:=false) (by kernel_rfl) (fun hc=>(lp_of (by kernel_rfl) (lp_cons (f25_q4_ok hc) lp_nil))) (mc:=fun X a K=>f25_c a K) (fun _ _ _=>by kernel_rfl) (by intros;simp only [f25_m,f25_c,n1,n2,n3,n4,n5,n6,n7,n8]) (fun _=>rfl)
def f63v1_s:FS (TMods×Bool×(List TCongr)×(List TCongr)) (Unit) where
 sk:=⟨(.cons (.ptr 0 0) (.cons (.agg (.cons .bool (.cons (.lit cCongr) (.cons (.lit cCongr) .nil)))) .nil)),[.opn (.cons .bool (.cons (.all 1) (.cons (.all 2) .nil))),.cells cCongr,.cells cCongr],0⟩
 a:=fun u=>((u.1.2.1.1,(u.1.2.1.2.1,u.1.2.1.2.2.1)),u.2.1.1,u.2.2.1,u.2.2.2.1)
 n:=fun a=>(((),((a.1.1,(a.1.2.1,(a.1.2.2,()))),())),((a.2.1,((),((),()))),(a.2.2.1,(a.2.2.2,()))))
 o:=fun Z a r K=>K (.fn 116 [.ptr 3 0,.ptr 4 0]) ⟨[.opn [.bool a.2.1,.all 1,.all 2],.cells cCongr a.2.2.1,.cells cCongr a.2.2.2,.opn [.ptr 0 0],.opn [.bool a.1.1,.lit cCongr a.1.2.1,.lit cCongr a.1.2.2]],0⟩
def f63v1_c {X:Type} (a:TMods×Bool×(List TCongr)×(List TCongr)) (K:Unit→Option X):Option X:=
 K ()
def f63v1_m (a:TMods×Bool×(List TCongr)×(List TCongr)):Option (Unit):=f63v1_c a some
def f63v1_sp:Spec:=f63v1_s.sp f63v1_m
noncomputable def f63v1_e:Env:=⟨fun k=>[].contains k,callsL [],fun X k s K=>none⟩
theorem f63v1_ok:OK (1) 63 (f63v1_s.sp f63v1_m):=
 fnOK (d:=0) (env:=f63v1_e) (callsL_sim cn) (fn:=Tryz.f63) (locs:=[]) (sh:= .any) (fz:=false) (by kernel_rfl) (fun hc=>(lp_of (by kernel_rfl) lp_nil)) (mc:=fun X a K=>f63v1_c a K) (fun _ _ _=>by kernel_rfl) (by intros;simp only [f63v1_m,f63v1_c,n1,n2,n3,n4,n5,n6,n7,n8]) (fun _=>rfl)
def y260009_s:FS (Nat×TCongr×(List TCongr)) ((List TCongr)) where
 sk:=⟨(.cons (.yl 0) (.cons (.pel 1 0) (.cons (.agg (.cons .bool (.cons (.int .i64) (.cons (.int .i64) .nil)))) .nil))),[.loop 260009 [] .ready .normal,.cells cCongr],0⟩
 a:=fun u=>(u.1.2.1,(u.1.2.2.1.1,(u.1.2.2.1.2.1,u.1.2.2.1.2.2.1)),u.2.2.1)
 n:=fun a=>(((),(a.1,((a.2.1.1,(a.2.1.2.1,(a.2.1.2.2,()))),()))),((),(a.2.2,())))
 o:=fun Z a r K=>K (.bool true) ⟨[.loop 260009 [] .ready .normal,.cells cCongr r],0⟩
def y260009_c {X:Type} (a:Nat×TCongr×(List TCongr)) (K:(List TCongr)→Option X):Option X:=
 (f51_m ((gx a.2.2 a.1 dCongr),a.2.1)).bind fun r1=>
 K (List.set a.2.2 a.1 r1)
def y260009_m (a:Nat×TCongr×(List TCongr)):Option ((List TCongr)):=y260009_c a some
def y260009_sp:Spec:=y260009_s.sp y260009_m
noncomputable def y260009_e:Env:=⟨fun k=>[].contains k,callsL [(51,f51_sp)],fun X k s K=>none⟩
theorem y260009_ok:OKY (6) y260009_sp:=
 ylOK (d:=5) (env:=y260009_e) (callsL_sim (cc f51_ok cn)) (id:=260009) (r:=rfT 260009) rfl (fun hc=>(lp_of (by kernel_rfl) lp_nil)) (fun hc=>(lp_of (by kernel_rfl) lp_nil)) (mc:=fun X a K=>y260009_c a K) (fun _ _ _=>by kernel_rfl) (by intros;simp only [y260009_m,y260009_c,n1,n2,n3,n4,n5,n6,n7,n8]) (fun _=>rfl)
def f116v1_s:FS (Bool×(List TCongr)×(List TCongr)×TMods) ((List TCongr)×(List TCongr)) where
 sk:=⟨(.cons (.yl 5) (.cons (.ptr 0 0) (.cons (.ptr 4 0) .nil))),[.opn (.cons (.ptr 1 0) .nil),.opn (.cons .bool (.cons (.all 2) (.cons (.all 3) .nil))),.cells cCongr,.cells cCongr,.opn (.cons .bool (.cons (.lit cCongr) (.cons (.lit cCongr) .nil))),.loop 260009 [] .ready .normal],0⟩
 a:=fun u=>(u.2.2.1.1,u.2.2.2.1,u.2.2.2.2.1,(u.2.2.2.2.2.1.1,(u.2.2.2.2.2.1.2.1,u.2.2.2.2.2.1.2.2.1)))
 n:=fun a=>(((),((),((),()))),(((),()),((a.1,((),((),()))),(a.2.1,(a.2.2.1,((a.2.2.2.1,(a.2.2.2.2.1,(a.2.2.2.2.2,()))),((),())))))))
 o:=fun Z a r K=>K (.tup []) ⟨[.opn [.ptr 1 0],.opn [.bool a.1,.all 2,.all 3],.cells cCongr r.1,.cells cCongr r.2,.opn [.bool a.2.2.2.1,.lit cCongr a.2.2.2.2.1,.lit cCongr a.2.2.2.2.2],.loop 260009 [] .ready .normal],0⟩
def f116v1_l1:LD (Int×Bool×((List TCongr)×TMods)) (Int×(List TCongr)) ((List TCongr)) where
 sk:=⟨[(0,.v (.yl 5)),(1,.v (.ptr 0 0)),(2,.v (.ptr 4 0)),(10,.v (.int .i64)),(11,.v (.int .i64))],[],[.opn (.cons (.ptr 1 0) .nil),.opn (.cons .bool (.cons (.all 2) (.cons (.all 3) .nil))),.cells cCongr,.cells cCongr,.opn (.cons .bool (.cons (.lit cCongr) (.cons (.lit cCongr) .nil))),.loop 260009 [] .ready .normal],0,6⟩
 p:=fun u=>(u.1.2.2.2.1,u.2.2.2.1.1,(u.2.2.2.2.2.1,(u.2.2.2.2.2.2.1.1,(u.2.2.2.2.2.2.1.2.1,u.2.2.2.2.2.2.1.2.2.1))))
 t:=fun u=>(u.1.2.2.2.2.1,u.2.2.2.2.1)
 n:=fun p t=>(((),((),((),(p.1,(t.1,()))))),((),(((),()),((p.2.1,((),((),()))),(t.2,(p.2.2.1,((p.2.2.2.1,(p.2.2.2.2.1,(p.2.2.2.2.2,()))),((),()))))))))
 st:=fun Y p t ki ke=>cond (decide (t.1<p.1))
  (ask (V.inRange t.1 (List.length t.2)) (ask (V.inRange t.1 (List.length p.2.2.2.2.1)) ((y260009_m ((Int.toNat t.1),(gx p.2.2.2.2.1 (Int.toNat t.1) dCongr),t.2)).bind fun r1=>
  ki ((wi64 (t.1+(1:Int))),r1))))
  (ke (t.2))
 o:=fun Z p e K=>K (.exit 0) ⟨[(0,.v (.yl 5)),(1,.v (.ptr 0 0)),(2,.v (.ptr 4 0))],[],⟨[.opn [.ptr 1 0],.opn [.bool p.2.1,.all 2,.all 3],.cells cCongr e,.cells cCongr p.2.2.1,.opn [.bool p.2.2.2.1,.lit cCongr p.2.2.2.2.1,.lit cCongr p.2.2.2.2.2],.loop 260009 [] .ready .normal],0⟩,6⟩
 pol:=⟨[0,1,2,10,11],[],[],[]⟩
 pe:=[(.exit 0,⟨[0,1,2],[],[],[]⟩)]
def f116v1_l6:LD (Int×Bool×(List TCongr)×TMods) (Int×(List TCongr)) ((List TCongr)) where
 sk:=⟨[(0,.v (.yl 5)),(1,.v (.ptr 0 0)),(2,.v (.ptr 4 0)),(33,.v (.int .i64)),(34,.v (.int .i64))],[],[.opn (.cons (.ptr 1 0) .nil),.opn (.cons .bool (.cons (.all 2) (.cons (.all 3) .nil))),.cells cCongr,.cells cCongr,.opn (.cons .bool (.cons (.lit cCongr) (.cons (.lit cCongr) .nil))),.loop 260009 [] .ready .normal],0,6⟩
 p:=fun u=>(u.1.2.2.2.1,u.2.2.2.1.1,u.2.2.2.2.1,(u.2.2.2.2.2.2.1.1,(u.2.2.2.2.2.2.1.2.1,u.2.2.2.2.2.2.1.2.2.1)))
 t:=fun u=>(u.1.2.2.2.2.1,u.2.2.2.2.2.1)
 n:=fun p t=>(((),((),((),(p.1,(t.1,()))))),((),(((),()),((p.2.1,((),((),()))),(p.2.2.1,(t.2,((p.2.2.2.1,(p.2.2.2.2.1,(p.2.2.2.2.2,()))),((),()))))))))
 st:=fun Y p t ki ke=>cond (decide (t.1<p.1))
  (ask (V.inRange t.1 (List.length t.2)) (ask (V.inRange t.1 (List.length p.2.2.2.2.2)) ((y260009_m ((Int.toNat t.1),(gx p.2.2.2.2.2 (Int.toNat t.1) dCongr),t.2)).bind fun r1=>
  ki ((wi64 (t.1+(1:Int))),r1))))
  (ke (t.2))
 o:=fun Z p e K=>K (.exit 2) ⟨[],[],⟨[.opn [.ptr 1 0],.opn [.bool p.2.1,.all 2,.all 3],.cells cCongr p.2.2.1,.cells cCongr e,.opn [.bool p.2.2.2.1,.lit cCongr p.2.2.2.2.1,.lit cCongr p.2.2.2.2.2],.loop 260009 [] .ready .normal],0⟩,6⟩
 pol:=⟨[0,1,2,33,34],[],[],[]⟩
 pe:=[(.exit 2,⟨[],[],[],[]⟩)]
def f116v1_c {X:Type} (a:Bool×(List TCongr)×(List TCongr)×TMods) (K:(List TCongr)×(List TCongr)→Option X):Option X:=
 (loopAll (f116v1_l1.m ((nt (List.length a.2.1)),a.1,a.2.2)) (0,a.2.1)).bind fun e1=>
 (loopAll (f116v1_l6.m ((nt (List.length a.2.2.1)),a.1,e1,a.2.2.2)) (0,a.2.2.1)).bind fun e2=>
 K (e1,e2)
def f116v1_m (a:Bool×(List TCongr)×(List TCongr)×TMods):Option ((List TCongr)×(List TCongr)):=f116v1_c a some
def f116v1_sp:Spec:=f116v1_s.sp f116v1_m
noncomputable def f116v1_e:Env:=⟨fun k=>[].contains k,callsYL [] [(260009,y260009_sp)],fun X k s K=>if k=1 then f116v1_l1.q X s K else if k=6 then f116v1_l6.q X s K else none⟩
noncomputable def f116v1_l1_c:Code:=subAt [0,1,0,0] (bodyOf Tryz.f116)
theorem f116v1_l1_ok {C:V.Callee} (hc:SimCall C f116v1_e.call):LoopSim f116v1_e.loop (vc par C true [] 52) (.loop f116v1_l1_c):=
 loop_form glob_ok hc (lp_of (by kernel_rfl) lp_nil) f116v1_l1 (by kernel_rfl) (by intros;simp only [f116v1_l1,LD.m,n1,n2,n3,n4,n5,n6,n7,n8]) (fun _ _=>by kernel_rfl) (fun _=>rfl) (fun _ _ _ _=>rfl) (fun _ _ _=>by kernel_rfl)
noncomputable def f116v1_l6_c:Code:=subAt [1,1,0,0] (bodyOf Tryz.f116)
theorem f116v1_l6_ok {C:V.Callee} (hc:SimCall C f116v1_e.call):LoopSim f116v1_e.loop (vc par C true [] 52) (.loop f116v1_l6_c):=
 loop_form glob_ok hc (lp_of (by kernel_rfl) lp_nil) f116v1_l6 (by kernel_rfl) (by intros;simp only [f116v1_l6,LD.m,n1,n2,n3,n4,n5,n6,n7,n8]) (fun _ _=>by kernel_rfl) (fun _=>rfl) (fun _ _ _ _=>rfl) (fun _ _ _=>by kernel_rfl)
theorem f116v1_ok:OK (7) 116 (f116v1_s.sp f116v1_m):=
 fnOK (d:=6) (env:=f116v1_e) (callsYL_sim cn (ccy y260009_ok cyn)) (fn:=Tryz.f116) (locs:=[]) (sh:= .any) (fz:=false) (by kernel_rfl) (fun hc=>(lp_of (by kernel_rfl) (lp_cons (f116v1_l1_ok hc) (lp_cons (f116v1_l6_ok hc) lp_nil)))) (mc:=fun X a K=>f116v1_c a K) (fun _ _ _=>by kernel_rfl) (by intros;simp only [f116v1_m,f116v1_c,n1,n2,n3,n4,n5,n6,n7,n8]) (fun _=>rfl)
def f26_s:FS (TMods×TMods) (TMods) where
 sk:=⟨(.cons (.agg (.cons .bool (.cons (.lit cCongr) (.cons (.lit cCongr) .nil)))) (.cons (.agg (.cons .bool (.cons (.lit cCongr) (.cons (.lit cCongr) .nil)))) .nil)),[],0⟩
 a:=fun u=>((u.1.1.1,(u.1.1.2.1,u.1.1.2.2.1)),(u.1.2.1.1,(u.1.2.1.2.1,u.1.2.1.2.2.1)))
 n:=fun a=>(((a.1.1,(a.1.2.1,(a.1.2.2,()))),((a.2.1,(a.2.2.1,(a.2.2.2,()))),())),())
 o:=fun Z a r K=>K (.agg [.bool r.1,.lit cCongr r.2.1,.lit cCongr r.2.2]) ⟨[],0⟩
def f26_q9:PD (Bool×(TMods×TMods)) ((List TCongr)×(List TCongr)) where
 sk:=⟨[(4,.v (.ptr 0 0)),(5,.v (.ptr 1 0)),(33,.v (.fn 116 (.cons (.ptr 4 0) (.cons (.ptr 5 0) .nil))))],[],[.opn (.cons .bool (.cons .nils (.cons .nils .nil))),.opn (.cons .bool (.cons (.all 2) (.cons (.all 3) .nil))),.cells cCongr,.cells cCongr,.opn (.cons (.ptr 1 0) .nil),.opn (.cons .bool (.cons (.lit cCongr) (.cons (.lit cCongr) .nil)))],0,0⟩
 p:=fun u=>(u.2.2.1.1,((u.2.2.2.1.1,(u.2.2.2.2.1,u.2.2.2.2.2.1)),(u.2.2.2.2.2.2.2.1.1,(u.2.2.2.2.2.2.2.1.2.1,u.2.2.2.2.2.2.2.1.2.2.1))))
 n:=fun p=>(((),((),(((),((),())),()))),((),((p.1,((),((),()))),((p.2.1.1,((),((),()))),(p.2.1.2.1,(p.2.1.2.2,(((),()),((p.2.2.1,(p.2.2.2.1,(p.2.2.2.2,()))),()))))))))
 st:=fun Y p ke=>(f116v1_m (p.2.1.1,p.2.1.2.1,p.2.1.2.2,p.2.2)).bind fun r1=>
  ke ((r1.1,r1.2))
 o:=fun Z p e K=>K .normal ⟨[(4,.v (.ptr 0 0)),(5,.v (.ptr 1 0))],[],⟨[.opn [.bool p.1,.nils,.nils],.opn [.bool p.2.1.1,.all 2,.all 3],.cells cCongr e.1,.cells cCongr e.2],0⟩,0⟩
 pol:=⟨[4,5,33],[],[],[]⟩
 pe:=[(.normal,⟨[4,5],[],[],[]⟩)]
def f26_c {X:Type} (a:TMods×TMods) (K:TMods→Option X):Option X:=
 cond (!a.1.1)
 (cond (!a.2.1)
 (K (false,([],[])))
 (cond (!a.1.1)
 ((f49_m a.2).bind fun r1=>
 K a.2)
 (cond (!a.2.1)
 ((f49_m a.1).bind fun r2=>
 K a.1)
 ((f49_m a.1).bind fun r3=>
 (f26_q9.m (false,a)).bind fun e4=>
 K (a.1.1,e4)))))
 (cond (!a.1.1)
 ((f49_m a.2).bind fun r5=>
 K a.2)
 (cond (!a.2.1)
 ((f49_m a.1).bind fun r6=>
 K a.1)
 ((f49_m a.1).bind fun r7=>
 (f26_q9.m (false,a)).bind fun e8=>
 K (a.1.1,e8))))
def f26_m (a:TMods×TMods):Option (TMods):=f26_c a some
def f26_sp:Spec:=f26_s.sp f26_m
noncomputable def f26_e:Env:=⟨fun k=>[].contains k,callsL [(49,f49_sp),(63,f63v1_sp),(116,f116v1_sp)],fun X k s K=>if k=9 then f26_q9.q X s K else none⟩
theorem f26_q9_ok {C:V.Callee} (hc:SimCall C f26_e.call):LoopSim f26_e.loop (vc par C true [] 44) (.rangeFunc (rfG (subAt [1,1,1,0,1,0] (bodyOf Tryz.f26))) (rfPs (subAt [1,1,1,0,1,0] (bodyOf Tryz.f26))) (rfA (subAt [1,1,1,0,1,0] (bodyOf Tryz.f26))) (rfB (subAt [1,1,1,0,1,0] (bodyOf Tryz.f26)))):=
 range_form glob_ok (env:=f26_e) (env0:=f26_e) hc rfl (id:=260009) (ks:=[]) (by kernel_rfl) f26_q9 (by kernel_rfl) (by intros;simp only [f26_q9,PD.m,n1,n2,n3,n4,n5,n6,n7,n8]) (fun _=>by kernel_rfl) (fun _=>rfl) (fun _ _ _ _=>rfl) (fun _ _ _=>by kernel_rfl)
theorem f26_ok:OK (8) 26 (f26_s.sp f26_m):=
 fnOK (d:=7) (env:=f26_e) (callsL_sim (cc f49_ok (cc f63v1_ok (cc f116v1_ok cn)))) (fn:=Tryz.f26) (locs:=[]) (sh:=(.agg [.any,(.lit cCongr),(.lit cCongr)])) (fz:=true) (by kernel_rfl) (fun hc=>(lp_of (by kernel_rfl) (lp_cons (f26_q9_ok hc) lp_nil))) (mc:=fun X a K=>f26_c a K) (fun _ _ _=>by kernel_rfl) (by intros;simp only [f26_m,f26_c,n1,n2,n3,n4,n5,n6,n7,n8]) (fun _=>rfl)
def f21_s:FS (TGraph) ((List TMods)) where
 sk:=⟨(.cons (.agg (.cons (.lit cInstr) (.cons (.int .i64) (.cons (.int .i64) (.cons (.int .i64) (.cons (.lit cArray) (.cons (.lit cScalar) (.cons (.lit cArray) (.cons (.lit cItv) .nil))))))))) .nil),[],0⟩
 a:=fun u=>(u.1.1.1,(u.1.1.2.1,(u.1.1.2.2.1,(u.1.1.2.2.2.1,(u.1.1.2.2.2.2.1,(u.1.1.2.2.2.2.2.1,(u.1.1.2.2.2.2.2.2.1,u.1.1.2.2.2.2.2.2.2.1)))))))
 n:=fun a=>(((a.1,(a.2.1,(a.2.2.1,(a.2.2.2.1,(a.2.2.2.2.1,(a.2.2.2.2.2.1,(a.2.2.2.2.2.2.1,(a.2.2.2.2.2.2.2,())))))))),()),())
 o:=fun Z a r K=>K (.lit cMods r) ⟨[],0⟩
def f21_l12:LD ((List Int)×Int×(List Int)×Int×Int×TItv×TGraph) (Int×(List TMods)×(List (Int×Bool))) ((List TMods)×(List (Int×Bool))) where
 sk:=⟨[(1,.loc 0 0),(3,.v (.all 0)),(4,.v (.mp 1)),(5,.v (.lit (.int .i64))),(7,.v (.int .i64)),(26,.v (.lit (.int .i64))),(27,.v (.int .i64)),(28,.v (.int .i64)),(43,.v (.agg (.cons (.int .i64) (.cons (.int .i64) .nil)))),(44,.v (.int .i64))],[(.cons (.lit cInstr) (.cons (.int .i64) (.cons (.int .i64) (.cons (.int .i64) (.cons (.lit cArray) (.cons (.lit cScalar) (.cons (.lit cArray) (.cons (.lit cItv) .nil))))))))],[.cells cMods,.mapT (.int .i64) false .bool],0,0⟩
 p:=fun u=>(u.1.2.2.1,u.1.2.2.2.1,u.1.2.2.2.2.1,u.1.2.2.2.2.2.1,u.1.2.2.2.2.2.2.1,(u.1.2.2.2.2.2.2.2.1.1,u.1.2.2.2.2.2.2.2.1.2.1),(u.2.1.1.1,(u.2.1.1.2.1,(u.2.1.1.2.2.1,(u.2.1.1.2.2.2.1,(u.2.1.1.2.2.2.2.1,(u.2.1.1.2.2.2.2.2.1,(u.2.1.1.2.2.2.2.2.2.1,u.2.1.1.2.2.2.2.2.2.2.1))))))))
 t:=fun u=>(u.1.2.2.2.2.2.2.2.2.1,u.2.2.1,u.2.2.2.1)
 n:=fun p t=>(((),((),(p.1,(p.2.1,(p.2.2.1,(p.2.2.2.1,(p.2.2.2.2.1,((p.2.2.2.2.2.1.1,(p.2.2.2.2.2.1.2,())),(t.1,()))))))))),(((p.2.2.2.2.2.2.1,(p.2.2.2.2.2.2.2.1,(p.2.2.2.2.2.2.2.2.1,(p.2.2.2.2.2.2.2.2.2.1,(p.2.2.2.2.2.2.2.2.2.2.1,(p.2.2.2.2.2.2.2.2.2.2.2.1,(p.2.2.2.2.2.2.2.2.2.2.2.2.1,(p.2.2.2.2.2.2.2.2.2.2.2.2.2,())))))))),()),(t.2.1,(t.2.2,()))))
 st:=fun Y p t ki ke=>cond (decide (t.1<(2:Int)))
  (cond (decide (t.1=(0:Int)))
  (cond (decide (p.2.2.2.2.2.1.1<(0:Int)))
  (ki ((wi64 (t.1+(1:Int))),t.2.1,t.2.2))
  (ask (V.inRange p.2.1 (List.length t.2.1)) ((f16_m (p.2.2.2.2.2.2,(gx t.2.1 (Int.toNat p.2.1) dMods),p.2.1,t.1)).bind fun r1=>
  ask (V.inRange p.2.2.2.2.2.1.1 (List.length t.2.1)) ((f25_m (r1,(gx t.2.1 (Int.toNat p.2.2.2.2.2.1.1) dMods))).bind fun r2=>
  cond (!r2)
  (ask (V.inRange p.2.2.2.2.2.1.1 (List.length t.2.1)) ((f26_m ((gx t.2.1 (Int.toNat p.2.2.2.2.2.1.1) dMods),r1)).bind fun r3=>
  ask (V.inRange p.2.2.2.2.2.1.1 (List.length t.2.1)) (ki ((wi64 (t.1+(1:Int))),(List.set t.2.1 (Int.toNat p.2.2.2.2.2.1.1) r3),(setT (k:=(.int .i64)) p.2.2.2.2.2.1.1 true t.2.2)))))
  (ki ((wi64 (t.1+(1:Int))),t.2.1,t.2.2))))))
  (cond (decide (t.1=(1:Int)))
  (cond (decide (p.2.2.2.2.2.1.2<(0:Int)))
  (ki ((wi64 (t.1+(1:Int))),t.2.1,t.2.2))
  (ask (V.inRange p.2.1 (List.length t.2.1)) ((f16_m (p.2.2.2.2.2.2,(gx t.2.1 (Int.toNat p.2.1) dMods),p.2.1,t.1)).bind fun r4=>
  ask (V.inRange p.2.2.2.2.2.1.2 (List.length t.2.1)) ((f25_m (r4,(gx t.2.1 (Int.toNat p.2.2.2.2.2.1.2) dMods))).bind fun r5=>
  cond (!r5)
  (ask (V.inRange p.2.2.2.2.2.1.2 (List.length t.2.1)) ((f26_m ((gx t.2.1 (Int.toNat p.2.2.2.2.2.1.2) dMods),r4)).bind fun r6=>
  ask (V.inRange p.2.2.2.2.2.1.2 (List.length t.2.1)) (ki ((wi64 (t.1+(1:Int))),(List.set t.2.1 (Int.toNat p.2.2.2.2.2.1.2) r6),(setT (k:=(.int .i64)) p.2.2.2.2.2.1.2 true t.2.2)))))
  (ki ((wi64 (t.1+(1:Int))),t.2.1,t.2.2))))))
  (none)))
  (ke ((t.2.1,t.2.2)))
 o:=fun Z p e K=>K (.exit 4) ⟨[(1,.loc 0 0),(3,.v (.all 0)),(4,.v (.mp 1)),(5,.v (.lit (.int .i64) p.1)),(26,.v (.lit (.int .i64) p.2.2.1)),(27,.v (.int .i64 p.2.2.2.1)),(28,.v (.int .i64 p.2.2.2.2.1))],[[.lit cInstr p.2.2.2.2.2.2.1,.int .i64 p.2.2.2.2.2.2.2.1,.int .i64 p.2.2.2.2.2.2.2.2.1,.int .i64 p.2.2.2.2.2.2.2.2.2.1,.lit cArray p.2.2.2.2.2.2.2.2.2.2.1,.lit cScalar p.2.2.2.2.2.2.2.2.2.2.2.1,.lit cArray p.2.2.2.2.2.2.2.2.2.2.2.2.1,.lit cItv p.2.2.2.2.2.2.2.2.2.2.2.2.2]],⟨[.cells cMods e.1,.mapT (.int .i64) false .bool e.2],0⟩,0⟩
 pol:=⟨[1,3,4,5,7,26,27,28,43,44],[],[],[]⟩
 pe:=[(.exit 4,⟨[1,3,4,5,26,27,28],[],[],[]⟩)]
def f21_l7:LD ((List Int)×(List Int)×Int×TGraph) (Int×(List TMods)×(List (Int×Bool))) ((List TMods)×(List (Int×Bool))) where
 sk:=⟨[(1,.loc 0 0),(3,.v (.all 0)),(4,.v (.mp 1)),(5,.v (.lit (.int .i64))),(26,.v (.lit (.int .i64))),(27,.v (.int .i64)),(28,.v (.int .i64))],[(.cons (.lit cInstr) (.cons (.int .i64) (.cons (.int .i64) (.cons (.int .i64) (.cons (.lit cArray) (.cons (.lit cScalar) (.cons (.lit cArray) (.cons (.lit cItv) .nil))))))))],[.cells cMods,.mapT (.int .i64) false .bool],0,0⟩
 p:=fun u=>(u.1.2.2.1,u.1.2.2.2.1,u.1.2.2.2.2.1,(u.2.1.1.1,(u.2.1.1.2.1,(u.2.1.1.2.2.1,(u.2.1.1.2.2.2.1,(u.2.1.1.2.2.2.2.1,(u.2.1.1.2.2.2.2.2.1,(u.2.1.1.2.2.2.2.2.2.1,u.2.1.1.2.2.2.2.2.2.2.1))))))))
 t:=fun u=>(u.1.2.2.2.2.2.1,u.2.2.1,u.2.2.2.1)
 n:=fun p t=>(((),((),(p.1,(p.2.1,(p.2.2.1,(t.1,())))))),(((p.2.2.2.1,(p.2.2.2.2.1,(p.2.2.2.2.2.1,(p.2.2.2.2.2.2.1,(p.2.2.2.2.2.2.2.1,(p.2.2.2.2.2.2.2.2.1,(p.2.2.2.2.2.2.2.2.2.1,(p.2.2.2.2.2.2.2.2.2.2,())))))))),()),(t.2.1,(t.2.2,()))))
 st:=fun Y p t ki ke=>cond (decide (t.1<p.2.2.1))
  (ask (V.inRange t.1 (List.length p.2.1)) (cond (hasT (k:=(.int .i64)) (gx p.2.1 (Int.toNat t.1) (0:Int)) t.2.2)
  (cond (!(getT (k:=(.int .i64)) (gx p.2.1 (Int.toNat t.1) (0:Int)) false t.2.2))
  (ki ((wi64 (t.1+(1:Int))),t.2.1,t.2.2))
  (ask (V.inRange (gx p.2.1 (Int.toNat t.1) (0:Int)) (List.length p.2.2.2.1)) ((loopAll (f21_l12.m (p.1,(gx p.2.1 (Int.toNat t.1) (0:Int)),p.2.1,p.2.2.1,t.1,(gx p.2.2.2.1 (Int.toNat (gx p.2.1 (Int.toNat t.1) (0:Int))) dInstr).2.2.2.2.2.2,p.2.2.2)) (0,t.2.1,(delT (k:=(.int .i64)) (gx p.2.1 (Int.toNat t.1) (0:Int)) t.2.2))).bind fun e1=>
  ki ((wi64 (t.1+(1:Int))),e1.1,e1.2))))
  (ki ((wi64 (t.1+(1:Int))),t.2.1,t.2.2))))
  (ke ((t.2.1,t.2.2)))
 o:=fun Z p e K=>K (.exit 2) ⟨[(1,.loc 0 0),(3,.v (.all 0)),(4,.v (.mp 1)),(5,.v (.lit (.int .i64) p.1))],[[.lit cInstr p.2.2.2.1,.int .i64 p.2.2.2.2.1,.int .i64 p.2.2.2.2.2.1,.int .i64 p.2.2.2.2.2.2.1,.lit cArray p.2.2.2.2.2.2.2.1,.lit cScalar p.2.2.2.2.2.2.2.2.1,.lit cArray p.2.2.2.2.2.2.2.2.2.1,.lit cItv p.2.2.2.2.2.2.2.2.2.2]],⟨[.cells cMods e.1,.mapT (.int .i64) false .bool e.2],0⟩,0⟩
 pol:=⟨[1,3,4,5,26,27,28],[],[],[]⟩
 pe:=[(.exit 2,⟨[1,3,4,5],[],[],[]⟩)]
def f21_l5:LD ((List Int)×TGraph) ((List TMods)×(List (Int×Bool))) ((List TMods)) where
 sk:=⟨[(1,.loc 0 0),(3,.v (.all 0)),(4,.v (.mp 1)),(5,.v (.lit (.int .i64)))],[(.cons (.lit cInstr) (.cons (.int .i64) (.cons (.int .i64) (.cons (.int .i64) (.cons (.lit cArray) (.cons (.lit cScalar) (.cons (.lit cArray) (.cons (.lit cItv) .nil))))))))],[.cells cMods,.mapT (.int .i64) false .bool],0,0⟩
 p:=fun u=>(u.1.2.2.1,(u.2.1.1.1,(u.2.1.1.2.1,(u.2.1.1.2.2.1,(u.2.1.1.2.2.2.1,(u.2.1.1.2.2.2.2.1,(u.2.1.1.2.2.2.2.2.1,(u.2.1.1.2.2.2.2.2.2.1,u.2.1.1.2.2.2.2.2.2.2.1))))))))
 t:=fun u=>(u.2.2.1,u.2.2.2.1)
 n:=fun p t=>(((),((),(p.1,()))),(((p.2.1,(p.2.2.1,(p.2.2.2.1,(p.2.2.2.2.1,(p.2.2.2.2.2.1,(p.2.2.2.2.2.2.1,(p.2.2.2.2.2.2.2.1,(p.2.2.2.2.2.2.2.2,())))))))),()),(t.1,(t.2,()))))
 st:=fun Y p t ki ke=>cond (decide ((0:Int)<(nt (List.length t.2))))
  ((loopAll (f21_l7.m (p.1,p.1,(nt (List.length p.1)),p.2)) (0,t.1,t.2)).bind fun e1=>
  ki (e1.1,e1.2))
  (ke (t.1))
 o:=fun Z p e K=>K (.exit 0) ⟨[(3,.v (.all 0))],[],⟨[.cells cMods e],0⟩,0⟩
 pol:=⟨[1,3,4,5],[],[],[]⟩
 pe:=[(.exit 0,⟨[3],[],[],[]⟩)]
def f21_c {X:Type} (a:TGraph) (K:(List TMods)→Option X):Option X:=
 ask (decide (0≤(nt (List.length a.1)))&&decide ((nt (List.length a.1))≤(nt (List.length a.1)))&&decide (56 * (nt (List.length a.1))≤70368744177664)&&decide ((nt (List.length a.1))<9223372036854775808)) ((f32_m a).bind fun r1=>
 ask (V.inRange 0 (List.length (List.replicate (Int.toNat (nt (List.length a.1))) ((false,([],[])):TMods)))) ((f58_m a).bind fun r2=>
 (loopAll (f21_l5.m (r2,a)) ((List.set (List.replicate (Int.toNat (nt (List.length a.1))) ((false,([],[])):TMods)) 0 (true,r1)),(setT (k:=(.int .i64)) (0:Int) true ([]:List (Int×Bool))))).bind fun e3=>
 K e3))
def f21_m (a:TGraph):Option ((List TMods)):=f21_c a some
def f21_sp:Spec:=f21_s.sp f21_m
noncomputable def f21_e:Env:=⟨fun k=>[].contains k,callsL [(32,f32_sp),(58,f58_sp),(16,f16_sp),(25,f25_sp),(26,f26_sp)],fun X k s K=>if k=12 then f21_l12.q X s K else if k=7 then f21_l7.q X s K else if k=5 then f21_l5.q X s K else none⟩
noncomputable def f21_l12_c:Code:=subAt [1,1,1,1,1,0,0,0,1,0,1,0,0,1,1,0,0,1,1,1,1,0,0] (bodyOf Tryz.f21)
theorem f21_l12_ok {C:V.Callee} (hc:SimCall C f21_e.call):LoopSim f21_e.loop (vc par C true [1,10] 79) (.loop f21_l12_c):=
 loop_form glob_ok hc (lp_of (by kernel_rfl) lp_nil) f21_l12 (by kernel_rfl) (by intros;simp only [f21_l12,LD.m,n1,n2,n3,n4,n5,n6,n7,n8]) (fun _ _=>by kernel_rfl) (fun _=>rfl) (fun _ _ _ _=>rfl) (fun _ _ _=>by kernel_rfl)
noncomputable def f21_l7_c:Code:=subAt [1,1,1,1,1,0,0,0,1,0,1,0,0] (bodyOf Tryz.f21)
theorem f21_l7_ok {C:V.Callee} (hc:SimCall C f21_e.call):LoopSim f21_e.loop (vc par C true [1,10] 79) (.loop f21_l7_c):=
 loop_form glob_ok hc (lp_of (by kernel_rfl) (lp_cons (f21_l12_ok hc) lp_nil)) f21_l7 (by kernel_rfl) (by intros;simp only [f21_l7,LD.m,n1,n2,n3,n4,n5,n6,n7,n8]) (fun _ _=>by kernel_rfl) (fun _=>rfl) (fun _ _ _ _=>rfl) (fun _ _ _=>by kernel_rfl)
noncomputable def f21_l5_c:Code:=subAt [1,1,1,1,1,0,0,0] (bodyOf Tryz.f21)
theorem f21_l5_ok {C:V.Callee} (hc:SimCall C f21_e.call):LoopSim f21_e.loop (vc par C true [1,10] 79) (.loop f21_l5_c):=
 loop_form glob_ok hc (lp_of (by kernel_rfl) (lp_cons (f21_l7_ok hc) lp_nil)) f21_l5 (by kernel_rfl) (by intros;simp only [f21_l5,LD.m,n1,n2,n3,n4,n5,n6,n7,n8]) (fun _ _=>by kernel_rfl) (fun _=>rfl) (fun _ _ _ _=>rfl) (fun _ _ _=>by kernel_rfl)
theorem f21_ok:OK (166020696663385964547) 21 (f21_s.sp f21_m):=
 fnOK (d:=166020696663385964546) (env:=f21_e) (callsL_sim (cc f32_ok (cc f58_ok (cc f16_ok (cc f25_ok (cc f26_ok cn)))))) (fn:=Tryz.f21) (locs:=[1,10]) (sh:=(.lit cMods)) (fz:=true) (by kernel_rfl) (fun hc=>(lp_of (by kernel_rfl) (lp_cons (f21_l5_ok hc) lp_nil))) (mc:=fun X a K=>f21_c a K) (fun _ _ _=>by kernel_rfl) (by intros;simp only [f21_m,f21_c,n1,n2,n3,n4,n5,n6,n7,n8]) (fun _=>rfl)
def f158_s:FS (Int) (Int) where
 sk:=⟨(.cons (.int .i64) .nil),[],0⟩
 a:=fun u=>u.1.1
 n:=fun a=>((a,()),())
 o:=fun Z a r K=>K (.int .i64 r) ⟨[],0⟩
def f158_c {X:Type} (a:Int) (K:Int→Option X):Option X:=
 cond (decide ((4611686018427387904:Int)≤a))
 (K 1)
 (cond (decide (a≤(-4611686018427387904:Int)))
 (K (-1))
 (K 0))
def f158_m (a:Int):Option (Int):=f158_c a some
def f158_sp:Spec:=f158_s.sp f158_m
noncomputable def f158_e:Env:=⟨fun k=>[].contains k,callsL [],fun X k s K=>none⟩
theorem f158_ok:OK (1) 158 (f158_s.sp f158_m):=
 fnOK (d:=0) (env:=f158_e) (callsL_sim cn) (fn:=Tryz.f158) (locs:=[]) (sh:= .any) (fz:=false) (by kernel_rfl) (fun hc=>(lp_of (by kernel_rfl) lp_nil)) (mc:=fun X a K=>f158_c a K) (fun _ _ _=>by kernel_rfl) (by intros;simp only [f158_m,f158_c,n1,n2,n3,n4,n5,n6,n7,n8]) (fun _=>rfl)
def f119_s:FS (Int) (ByteArray) where
 sk:=⟨(.cons (.int .i64) .nil),[],0⟩
 a:=fun u=>u.1.1
 n:=fun a=>((a,()),())
 o:=fun Z a r K=>K (.str r) ⟨[],0⟩
def f119_c {X:Type} (a:Int) (K:ByteArray→Option X):Option X:=
 (f158_m a).bind fun r1=>
 cond (decide (r1=(1:Int)))
 (none)
 (cond (decide (r1=(-1:Int)))
 (none)
 ((f120_m (a,10)).bind fun r2=>
 K r2))
def f119_m (a:Int):Option (ByteArray):=f119_c a some
def f119_sp:Spec:=f119_s.sp f119_m
noncomputable def f119_e:Env:=⟨fun k=>[].contains k,callsL [(158,f158_sp),(120,f120_sp)],fun X k s K=>none⟩
theorem f119_ok:OK (2) 119 (f119_s.sp f119_m):=
 fnOK (d:=1) (env:=f119_e) (callsL_sim (cc f158_ok (cc f120_ok cn))) (fn:=Tryz.f119) (locs:=[]) (sh:= .any) (fz:=false) (by kernel_rfl) (fun hc=>(lp_of (by kernel_rfl) lp_nil)) (mc:=fun X a K=>f119_c a K) (fun _ _ _=>by kernel_rfl) (by intros;simp only [f119_m,f119_c,n1,n2,n3,n4,n5,n6,n7,n8]) (fun _=>rfl)
def f67_s:FS (TCongr) (ByteArray) where
 sk:=⟨(.cons (.agg (.cons .bool (.cons (.int .i64) (.cons (.int .i64) .nil)))) .nil),[],0⟩
 a:=fun u=>(u.1.1.1,(u.1.1.2.1,u.1.1.2.2.1))
 n:=fun a=>(((a.1,(a.2.1,(a.2.2,()))),()),())
 o:=fun Z a r K=>K (.str r) ⟨[],0⟩
def f67_c {X:Type} (a:TCongr) (K:ByteArray→Option X):Option X:=
 cond a.1
 (K (str [110,111,110,101]))
 (cond (decide (a.2.1=(0:Int)))
 ((f119_m a.2.2).bind fun r1=>
 K r1)
 (cond (decide (a.2.1=(1:Int)))
 (K (str [97,108,108]))
 ((f120_m (a.2.2,10)).bind fun r2=>
 ask (decide (ByteArray.size r2+ByteArray.size (str [32,109,111,100,32])≤9223372036854775807)) ((f120_m (a.2.1,10)).bind fun r3=>
 ask (decide (ByteArray.size (r2++(str [32,109,111,100,32]))+ByteArray.size r3≤9223372036854775807)) (K ((r2++(str [32,109,111,100,32]))++r3))))))
def f67_m (a:TCongr):Option (ByteArray):=f67_c a some
def f67_sp:Spec:=f67_s.sp f67_m
noncomputable def f67_e:Env:=⟨fun k=>[].contains k,callsL [(119,f119_sp),(120,f120_sp)],fun X k s K=>none⟩
theorem f67_ok:OK (3) 67 (f67_s.sp f67_m):=
 fnOK (d:=2) (env:=f67_e) (callsL_sim (cc f119_ok (cc f120_ok cn))) (fn:=Tryz.f67) (locs:=[1]) (sh:= .any) (fz:=false) (by kernel_rfl) (fun hc=>(lp_of (by kernel_rfl) lp_nil)) (mc:=fun X a K=>f67_c a K) (fun _ _ _=>by kernel_rfl) (by intros;simp only [f67_m,f67_c,n1,n2,n3,n4,n5,n6,n7,n8]) (fun _=>rfl)
def f30_s:FS (TGraph×TMods) (ByteArray) where
 sk:=⟨(.cons (.agg (.cons (.lit cInstr) (.cons (.int .i64) (.cons (.int .i64) (.cons (.int .i64) (.cons (.lit cArray) (.cons (.lit cScalar) (.cons (.lit cArray) (.cons (.lit cItv) .nil))))))))) (.cons (.agg (.cons .bool (.cons (.lit cCongr) (.cons (.lit cCongr) .nil)))) .nil)),[],0⟩
 a:=fun u=>((u.1.1.1,(u.1.1.2.1,(u.1.1.2.2.1,(u.1.1.2.2.2.1,(u.1.1.2.2.2.2.1,(u.1.1.2.2.2.2.2.1,(u.1.1.2.2.2.2.2.2.1,u.1.1.2.2.2.2.2.2.2.1))))))),(u.1.2.1.1,(u.1.2.1.2.1,u.1.2.1.2.2.1)))
 n:=fun a=>(((a.1.1,(a.1.2.1,(a.1.2.2.1,(a.1.2.2.2.1,(a.1.2.2.2.2.1,(a.1.2.2.2.2.2.1,(a.1.2.2.2.2.2.2.1,(a.1.2.2.2.2.2.2.2,())))))))),((a.2.1,(a.2.2.1,(a.2.2.2,()))),())),())
 o:=fun Z a r K=>K (.str r) ⟨[],0⟩
def f30_l5:LD ((List TCongr)×Int×(TGraph×TMods)) (Int×ByteArray) (ByteArray) where
 sk:=⟨[(2,.loc 0 0),(3,.loc 1 0),(5,.v (.ptr 0 0)),(14,.v (.lit cCongr)),(15,.v (.int .i64)),(16,.v (.int .i64))],[(.cons (.lit cInstr) (.cons (.int .i64) (.cons (.int .i64) (.cons (.int .i64) (.cons (.lit cArray) (.cons (.lit cScalar) (.cons (.lit cArray) (.cons (.lit cItv) .nil)))))))),(.cons .bool (.cons (.lit cCongr) (.cons (.lit cCongr) .nil)))],[.bld (.all 1),.byt],0,0⟩
 p:=fun u=>(u.1.2.1,u.1.2.2.1,((u.2.1.1.1,(u.2.1.1.2.1,(u.2.1.1.2.2.1,(u.2.1.1.2.2.2.1,(u.2.1.1.2.2.2.2.1,(u.2.1.1.2.2.2.2.2.1,(u.2.1.1.2.2.2.2.2.2.1,u.2.1.1.2.2.2.2.2.2.2.1))))))),(u.2.1.2.1.1,(u.2.1.2.1.2.1,u.2.1.2.1.2.2.1))))
 t:=fun u=>(u.1.2.2.2.1,u.2.2.2.1)
 n:=fun p t=>(((),(p.1,(p.2.1,(t.1,())))),(((p.2.2.1.1,(p.2.2.1.2.1,(p.2.2.1.2.2.1,(p.2.2.1.2.2.2.1,(p.2.2.1.2.2.2.2.1,(p.2.2.1.2.2.2.2.2.1,(p.2.2.1.2.2.2.2.2.2.1,(p.2.2.1.2.2.2.2.2.2.2,())))))))),((p.2.2.2.1,(p.2.2.2.2.1,(p.2.2.2.2.2,()))),())),((),(t.2,()))))
 st:=fun Y p t ki ke=>cond (decide (t.1<p.2.1))
  (ask (V.inRange t.1 (List.length p.1)) (ask (V.inRange t.1 (List.length p.2.2.1.2.2.2.2.2.1)) (ask (decide (ByteArray.size (gx p.2.2.1.2.2.2.2.2.1 (Int.toNat t.1) dScalar).1+ByteArray.size (str [32,105,115,32])≤9223372036854775807)) ((f67_m (gx p.1 (Int.toNat t.1) dCongr)).bind fun r1=>
  ask (decide (ByteArray.size ((gx p.2.2.1.2.2.2.2.2.1 (Int.toNat t.1) dScalar).1++(str [32,105,115,32]))+ByteArray.size r1≤9223372036854775807)) (ask (decide (ByteArray.size (((gx p.2.2.1.2.2.2.2.2.1 (Int.toNat t.1) dScalar).1++(str [32,105,115,32]))++r1)+ByteArray.size (str [10])≤9223372036854775807)) ((f66_m (((((gx p.2.2.1.2.2.2.2.2.1 (Int.toNat t.1) dScalar).1++(str [32,105,115,32]))++r1)++(str [10])),t.2)).bind fun r2=>
  ki ((wi64 (t.1+(1:Int))),r2.2)))))))
  (ke (t.2))
 o:=fun Z p e K=>K (.exit 0) ⟨[(2,.loc 0 0),(3,.loc 1 0),(5,.v (.ptr 0 0))],[[.lit cInstr p.2.2.1.1,.int .i64 p.2.2.1.2.1,.int .i64 p.2.2.1.2.2.1,.int .i64 p.2.2.1.2.2.2.1,.lit cArray p.2.2.1.2.2.2.2.1,.lit cScalar p.2.2.1.2.2.2.2.2.1,.lit cArray p.2.2.1.2.2.2.2.2.2.1,.lit cItv p.2.2.1.2.2.2.2.2.2.2],[.bool p.2.2.2.1,.lit cCongr p.2.2.2.2.1,.lit cCongr p.2.2.2.2.2]],⟨[.bld (.all 1),.byt e],0⟩,0⟩
 pol:=⟨[2,3,5,14,15,16],[],[],[]⟩
 pe:=[(.exit 0,⟨[2,3,5],[],[],[]⟩)]
def f30_l10:LD ((List TCongr)×Int×TGraph) (Int×ByteArray) (ByteArray) where
 sk:=⟨[(2,.loc 0 0),(5,.v (.ptr 0 0)),(35,.v (.lit cCongr)),(36,.v (.int .i64)),(37,.v (.int .i64))],[(.cons (.lit cInstr) (.cons (.int .i64) (.cons (.int .i64) (.cons (.int .i64) (.cons (.lit cArray) (.cons (.lit cScalar) (.cons (.lit cArray) (.cons (.lit cItv) .nil))))))))],[.bld (.all 1),.byt],0,0⟩
 p:=fun u=>(u.1.2.1,u.1.2.2.1,(u.2.1.1.1,(u.2.1.1.2.1,(u.2.1.1.2.2.1,(u.2.1.1.2.2.2.1,(u.2.1.1.2.2.2.2.1,(u.2.1.1.2.2.2.2.2.1,(u.2.1.1.2.2.2.2.2.2.1,u.2.1.1.2.2.2.2.2.2.2.1))))))))
 t:=fun u=>(u.1.2.2.2.1,u.2.2.2.1)
 n:=fun p t=>(((),(p.1,(p.2.1,(t.1,())))),(((p.2.2.1,(p.2.2.2.1,(p.2.2.2.2.1,(p.2.2.2.2.2.1,(p.2.2.2.2.2.2.1,(p.2.2.2.2.2.2.2.1,(p.2.2.2.2.2.2.2.2.1,(p.2.2.2.2.2.2.2.2.2,())))))))),()),((),(t.2,()))))
 st:=fun Y p t ki ke=>cond (decide (t.1<p.2.1))
  (ask (V.inRange t.1 (List.length p.1)) (ask (V.inRange t.1 (List.length p.2.2.2.2.2.2.2.2.1)) (ask (decide (ByteArray.size (gx p.2.2.2.2.2.2.2.2.1 (Int.toNat t.1) dArray).1+ByteArray.size (str [91,93,32,105,115,32])≤9223372036854775807)) ((f67_m (gx p.1 (Int.toNat t.1) dCongr)).bind fun r1=>
  ask (decide (ByteArray.size ((gx p.2.2.2.2.2.2.2.2.1 (Int.toNat t.1) dArray).1++(str [91,93,32,105,115,32]))+ByteArray.size r1≤9223372036854775807)) (ask (decide (ByteArray.size (((gx p.2.2.2.2.2.2.2.2.1 (Int.toNat t.1) dArray).1++(str [91,93,32,105,115,32]))++r1)+ByteArray.size (str [10])≤9223372036854775807)) ((f66_m (((((gx p.2.2.2.2.2.2.2.2.1 (Int.toNat t.1) dArray).1++(str [91,93,32,105,115,32]))++r1)++(str [10])),t.2)).bind fun r2=>
  ki ((wi64 (t.1+(1:Int))),r2.2)))))))
  (ke (t.2))
 o:=fun Z p e K=>K (.exit 2) ⟨[(5,.v (.ptr 0 0))],[],⟨[.bld (.all 1),.byt e],0⟩,0⟩
 pol:=⟨[2,5,35,36,37],[],[],[]⟩
 pe:=[(.exit 2,⟨[5],[],[],[]⟩)]
def f30_c {X:Type} (a:TGraph×TMods) (K:ByteArray→Option X):Option X:=
 cond (!a.2.1)
 (K (str [98,111,116,116,111,109,10]))
 ((loopAll (f30_l5.m (a.2.2.1,(nt (List.length a.2.2.1)),a)) (0,ByteArray.empty)).bind fun e1=>
 (loopAll (f30_l10.m (a.2.2.2,(nt (List.length a.2.2.2)),a.1)) (0,e1)).bind fun e2=>
 (f68_m e2).bind fun r3=>
 K r3)
def f30_m (a:TGraph×TMods):Option (ByteArray):=f30_c a some
def f30_sp:Spec:=f30_s.sp f30_m
noncomputable def f30_e:Env:=⟨fun k=>[].contains k,callsL [(67,f67_sp),(66,f66_sp),(68,f68_sp)],fun X k s K=>if k=5 then f30_l5.q X s K else if k=10 then f30_l10.q X s K else none⟩
noncomputable def f30_l5_c:Code:=subAt [1,1,1,0,1,0,0] (bodyOf Tryz.f30)
theorem f30_l5_ok {C:V.Callee} (hc:SimCall C f30_e.call):LoopSim f30_e.loop (vc par C true [2,3,7,9] 56) (.loop f30_l5_c):=
 loop_form glob_ok hc (lp_of (by kernel_rfl) lp_nil) f30_l5 (by kernel_rfl) (by intros;simp only [f30_l5,LD.m,n1,n2,n3,n4,n5,n6,n7,n8]) (fun _ _=>by kernel_rfl) (fun _=>rfl) (fun _ _ _ _=>rfl) (fun _ _ _=>by kernel_rfl)
noncomputable def f30_l10_c:Code:=subAt [1,1,1,1,0,1,0,0] (bodyOf Tryz.f30)
theorem f30_l10_ok {C:V.Callee} (hc:SimCall C f30_e.call):LoopSim f30_e.loop (vc par C true [2,3,7,9] 56) (.loop f30_l10_c):=
 loop_form glob_ok hc (lp_of (by kernel_rfl) lp_nil) f30_l10 (by kernel_rfl) (by intros;simp only [f30_l10,LD.m,n1,n2,n3,n4,n5,n6,n7,n8]) (fun _ _=>by kernel_rfl) (fun _=>rfl) (fun _ _ _ _=>rfl) (fun _ _ _=>by kernel_rfl)
theorem f30_ok:OK (4) 30 (f30_s.sp f30_m):=
 fnOK (d:=3) (env:=f30_e) (callsL_sim (cc f67_ok (cc f66_ok (cc f68_ok cn)))) (fn:=Tryz.f30) (locs:=[2,3,7,9]) (sh:= .any) (fz:=false) (by kernel_rfl) (fun hc=>(lp_of (by kernel_rfl) (lp_cons (f30_l5_ok hc) (lp_cons (f30_l10_ok hc) lp_nil)))) (mc:=fun X a K=>f30_c a K) (fun _ _ _=>by kernel_rfl) (by intros;simp only [f30_m,f30_c,n1,n2,n3,n4,n5,n6,n7,n8]) (fun _=>rfl)
def f13_s:FS (TGraph×TMods×Int) (TCongr) where
 sk:=⟨(.cons (.agg (.cons (.lit cInstr) (.cons (.int .i64) (.cons (.int .i64) (.cons (.int .i64) (.cons (.lit cArray) (.cons (.lit cScalar) (.cons (.lit cArray) (.cons (.lit cItv) .nil))))))))) (.cons (.agg (.cons .bool (.cons (.lit cCongr) (.cons (.lit cCongr) .nil)))) (.cons (.int .i64) .nil))),[],0⟩
 a:=fun u=>((u.1.1.1,(u.1.1.2.1,(u.1.1.2.2.1,(u.1.1.2.2.2.1,(u.1.1.2.2.2.2.1,(u.1.1.2.2.2.2.2.1,(u.1.1.2.2.2.2.2.2.1,u.1.1.2.2.2.2.2.2.2.1))))))),(u.1.2.1.1,(u.1.2.1.2.1,u.1.2.1.2.2.1)),u.1.2.2.1)
 n:=fun a=>(((a.1.1,(a.1.2.1,(a.1.2.2.1,(a.1.2.2.2.1,(a.1.2.2.2.2.1,(a.1.2.2.2.2.2.1,(a.1.2.2.2.2.2.2.1,(a.1.2.2.2.2.2.2.2,())))))))),((a.2.1.1,(a.2.1.2.1,(a.2.1.2.2,()))),(a.2.2,()))),())
 o:=fun Z a r K=>K (.agg [.bool r.1,.int .i64 r.2.1,.int .i64 r.2.2]) ⟨[],0⟩
def f13_c {X:Type} (a:TGraph×TMods×Int) (K:TCongr→Option X):Option X:=
 (f46_m (a.1,a.2.1)).bind fun r1=>
 (Rec47.m (a.2.2,a.1,a.2.1,r1.1,r1.2)).bind fun r2=>
 K r2.1
def f13_m (a:TGraph×TMods×Int):Option (TCongr):=f13_c a some
def f13_sp:Spec:=f13_s.sp f13_m
noncomputable def f13_e:Env:=⟨fun k=>[].contains k,callsL [(46,f46_sp),(47,f47_sp)],fun X k s K=>none⟩
theorem f13_ok:OK (166020696663385964545) 13 (f13_s.sp f13_m):=
 fnOK (d:=166020696663385964544) (env:=f13_e) (callsL_sim (cc f46_ok (cc f47_ok cn))) (fn:=Tryz.f13) (locs:=[3,4,6,1000011]) (sh:= .any) (fz:=false) (by kernel_rfl) (fun hc=>(lp_of (by kernel_rfl) lp_nil)) (mc:=fun X a K=>f13_c a K) (fun _ _ _=>by kernel_rfl) (by intros;simp only [f13_m,f13_c,n1,n2,n3,n4,n5,n6,n7,n8]) (fun _=>rfl)
def f23_s:FS (TGraph×(List TMods)) (Bool) where
 sk:=⟨(.cons (.agg (.cons (.lit cInstr) (.cons (.int .i64) (.cons (.int .i64) (.cons (.int .i64) (.cons (.lit cArray) (.cons (.lit cScalar) (.cons (.lit cArray) (.cons (.lit cItv) .nil))))))))) (.cons (.lit cMods) .nil)),[],0⟩
 a:=fun u=>((u.1.1.1,(u.1.1.2.1,(u.1.1.2.2.1,(u.1.1.2.2.2.1,(u.1.1.2.2.2.2.1,(u.1.1.2.2.2.2.2.1,(u.1.1.2.2.2.2.2.2.1,u.1.1.2.2.2.2.2.2.2.1))))))),u.1.2.1)
 n:=fun a=>(((a.1.1,(a.1.2.1,(a.1.2.2.1,(a.1.2.2.2.1,(a.1.2.2.2.2.1,(a.1.2.2.2.2.2.1,(a.1.2.2.2.2.2.2.1,(a.1.2.2.2.2.2.2.2,())))))))),(a.2,())),())
 o:=fun Z a r K=>K (.bool r) ⟨[],0⟩
def f23_l7:LD ((List TMods)×Int×(List Int)×Int×Int×TItv×TGraph) (Int) ((Unit) ⊕ (Unit)) where
 sk:=⟨[(1,.v (.lit cMods)),(2,.loc 0 0),(6,.v (.int .i64)),(25,.v (.lit (.int .i64))),(26,.v (.int .i64)),(27,.v (.int .i64)),(36,.v (.agg (.cons (.int .i64) (.cons (.int .i64) .nil)))),(37,.v (.int .i64))],[(.cons (.lit cInstr) (.cons (.int .i64) (.cons (.int .i64) (.cons (.int .i64) (.cons (.lit cArray) (.cons (.lit cScalar) (.cons (.lit cArray) (.cons (.lit cItv) .nil))))))))],[],0,0⟩
 p:=fun u=>(u.1.1,u.1.2.1,u.1.2.2.1,u.1.2.2.2.1,u.1.2.2.2.2.1,(u.1.2.2.2.2.2.1.1,u.1.2.2.2.2.2.1.2.1),(u.2.1.1.1,(u.2.1.1.2.1,(u.2.1.1.2.2.1,(u.2.1.1.2.2.2.1,(u.2.1.1.2.2.2.2.1,(u.2.1.1.2.2.2.2.2.1,(u.2.1.1.2.2.2.2.2.2.1,u.2.1.1.2.2.2.2.2.2.2.1))))))))
 t:=fun u=>u.1.2.2.2.2.2.2.1
 n:=fun p t=>((p.1,(p.2.1,(p.2.2.1,(p.2.2.2.1,(p.2.2.2.2.1,((p.2.2.2.2.2.1.1,(p.2.2.2.2.2.1.2,())),(t,()))))))),(((p.2.2.2.2.2.2.1,(p.2.2.2.2.2.2.2.1,(p.2.2.2.2.2.2.2.2.1,(p.2.2.2.2.2.2.2.2.2.1,(p.2.2.2.2.2.2.2.2.2.2.1,(p.2.2.2.2.2.2.2.2.2.2.2.1,(p.2.2.2.2.2.2.2.2.2.2.2.2.1,(p.2.2.2.2.2.2.2.2.2.2.2.2.2,())))))))),()),()))
 st:=fun Y p t ki ke=>cond (decide (t<(2:Int)))
  (cond (decide (t=(0:Int)))
  (cond (decide ((0:Int)≤p.2.2.2.2.2.1.1))
  (ask (V.inRange p.2.1 (List.length p.1)) ((f16_m (p.2.2.2.2.2.2,(gx p.1 (Int.toNat p.2.1) dMods),p.2.1,t)).bind fun r1=>
  ask (V.inRange p.2.2.2.2.2.1.1 (List.length p.1)) ((f25_m (r1,(gx p.1 (Int.toNat p.2.2.2.2.2.1.1) dMods))).bind fun r2=>
  cond (!r2)
  (ke (.inl ()))
  (ki ((wi64 (t+(1:Int))))))))
  (ki ((wi64 (t+(1:Int))))))
  (cond (decide (t=(1:Int)))
  (cond (decide ((0:Int)≤p.2.2.2.2.2.1.2))
  (ask (V.inRange p.2.1 (List.length p.1)) ((f16_m (p.2.2.2.2.2.2,(gx p.1 (Int.toNat p.2.1) dMods),p.2.1,t)).bind fun r3=>
  ask (V.inRange p.2.2.2.2.2.1.2 (List.length p.1)) ((f25_m (r3,(gx p.1 (Int.toNat p.2.2.2.2.2.1.2) dMods))).bind fun r4=>
  cond (!r4)
  (ke (.inl ()))
  (ki ((wi64 (t+(1:Int))))))))
  (ki ((wi64 (t+(1:Int))))))
  (none)))
  (ke (.inr (())))
 o:=fun Z p e K=>Sum.elim (fun e=>K .ret ⟨[(4,.v (.bool false))],[],⟨[],0⟩,0⟩) (fun e=>K (.exit 2) ⟨[(1,.v (.lit cMods p.1)),(2,.loc 0 0),(25,.v (.lit (.int .i64) p.2.2.1)),(26,.v (.int .i64 p.2.2.2.1)),(27,.v (.int .i64 p.2.2.2.2.1))],[[.lit cInstr p.2.2.2.2.2.2.1,.int .i64 p.2.2.2.2.2.2.2.1,.int .i64 p.2.2.2.2.2.2.2.2.1,.int .i64 p.2.2.2.2.2.2.2.2.2.1,.lit cArray p.2.2.2.2.2.2.2.2.2.2.1,.lit cScalar p.2.2.2.2.2.2.2.2.2.2.2.1,.lit cArray p.2.2.2.2.2.2.2.2.2.2.2.2.1,.lit cItv p.2.2.2.2.2.2.2.2.2.2.2.2.2]],⟨[],0⟩,0⟩) e
 pol:=⟨[1,2,6,25,26,27,36,37],[],[],[]⟩
 pe:=[(.ret,⟨[4],[],[],[]⟩),(.exit 2,⟨[1,2,25,26,27],[],[],[]⟩)]
def f23_l4:LD ((List TMods)×(List Int)×Int×TGraph) (Int) ((Unit) ⊕ (Unit)) where
 sk:=⟨[(1,.v (.lit cMods)),(2,.loc 0 0),(25,.v (.lit (.int .i64))),(26,.v (.int .i64)),(27,.v (.int .i64))],[(.cons (.lit cInstr) (.cons (.int .i64) (.cons (.int .i64) (.cons (.int .i64) (.cons (.lit cArray) (.cons (.lit cScalar) (.cons (.lit cArray) (.cons (.lit cItv) .nil))))))))],[],0,0⟩
 p:=fun u=>(u.1.1,u.1.2.1,u.1.2.2.1,(u.2.1.1.1,(u.2.1.1.2.1,(u.2.1.1.2.2.1,(u.2.1.1.2.2.2.1,(u.2.1.1.2.2.2.2.1,(u.2.1.1.2.2.2.2.2.1,(u.2.1.1.2.2.2.2.2.2.1,u.2.1.1.2.2.2.2.2.2.2.1))))))))
 t:=fun u=>u.1.2.2.2.1
 n:=fun p t=>((p.1,(p.2.1,(p.2.2.1,(t,())))),(((p.2.2.2.1,(p.2.2.2.2.1,(p.2.2.2.2.2.1,(p.2.2.2.2.2.2.1,(p.2.2.2.2.2.2.2.1,(p.2.2.2.2.2.2.2.2.1,(p.2.2.2.2.2.2.2.2.2.1,(p.2.2.2.2.2.2.2.2.2.2,())))))))),()),()))
 st:=fun Y p t ki ke=>cond (decide (t<p.2.2.1))
  (ask (V.inRange t (List.length p.2.1)) (ask (V.inRange (gx p.2.1 (Int.toNat t) (0:Int)) (List.length p.2.2.2.1)) ((loopAll (f23_l7.m (p.1,(gx p.2.1 (Int.toNat t) (0:Int)),p.2.1,p.2.2.1,t,(gx p.2.2.2.1 (Int.toNat (gx p.2.1 (Int.toNat t) (0:Int))) dInstr).2.2.2.2.2.2,p.2.2.2)) 0).bind fun e1=>
  Sum.elim (fun e2=>ke (.inl ()))
  (fun e3=>ki ((wi64 (t+(1:Int))))) e1)))
  (ke (.inr (())))
 o:=fun Z p e K=>Sum.elim (fun e=>K .ret ⟨[(4,.v (.bool false))],[],⟨[],0⟩,0⟩) (fun e=>K (.exit 0) ⟨[],[],⟨[],0⟩,0⟩) e
 pol:=⟨[1,2,25,26,27],[],[],[]⟩
 pe:=[(.ret,⟨[4],[],[],[]⟩),(.exit 0,⟨[],[],[],[]⟩)]
def f23_c {X:Type} (a:TGraph×(List TMods)) (K:Bool→Option X):Option X:=
 cond (!(decide ((nt (List.length a.2))=(nt (List.length a.1.1)))))
 (K false)
 ((f32_m a.1).bind fun r1=>
 ask (V.inRange 0 (List.length a.2)) ((f25_m ((true,r1),(gx a.2 0 dMods))).bind fun r2=>
 cond (!r2)
 (K false)
 ((f58_m a.1).bind fun r3=>
 (loopAll (f23_l4.m (a.2,r3,(nt (List.length r3)),a.1)) 0).bind fun e4=>
 Sum.elim (fun e5=>K false)
 (fun e6=>K true) e4)))
def f23_m (a:TGraph×(List TMods)):Option (Bool):=f23_c a some
def f23_sp:Spec:=f23_s.sp f23_m
noncomputable def f23_e:Env:=⟨fun k=>[].contains k,callsL [(32,f32_sp),(25,f25_sp),(58,f58_sp),(16,f16_sp)],fun X k s K=>if k=7 then f23_l7.q X s K else if k=4 then f23_l4.q X s K else none⟩
noncomputable def f23_l7_c:Code:=subAt [1,1,0,1,0,0,1,1,0,0,1,1,0,0] (bodyOf Tryz.f23)
theorem f23_l7_ok {C:V.Callee} (hc:SimCall C f23_e.call):LoopSim f23_e.loop (vc par C true [2] 61) (.loop f23_l7_c):=
 loop_form glob_ok hc (lp_of (by kernel_rfl) lp_nil) f23_l7 (by kernel_rfl) (by intros;simp only [f23_l7,LD.m,n1,n2,n3,n4,n5,n6,n7,n8]) (fun _ _=>by kernel_rfl) (fun _=>rfl) (fun _ _ e _=>by rcases e with e|e<;>rfl) (fun _ _ _=>by kernel_rfl)
noncomputable def f23_l4_c:Code:=subAt [1,1,0,1,0,0] (bodyOf Tryz.f23)
theorem f23_l4_ok {C:V.Callee} (hc:SimCall C f23_e.call):LoopSim f23_e.loop (vc par C true [2] 61) (.loop f23_l4_c):=
 loop_form glob_ok hc (lp_of (by kernel_rfl) (lp_cons (f23_l7_ok hc) lp_nil)) f23_l4 (by kernel_rfl) (by intros;simp only [f23_l4,LD.m,n1,n2,n3,n4,n5,n6,n7,n8]) (fun _ _=>by kernel_rfl) (fun _=>rfl) (fun _ _ e _=>by rcases e with e|e<;>rfl) (fun _ _ _=>by kernel_rfl)
theorem f23_ok:OK (166020696663385964547) 23 (f23_s.sp f23_m):=
 fnOK (d:=166020696663385964546) (env:=f23_e) (callsL_sim (cc f32_ok (cc f25_ok (cc f58_ok (cc f16_ok cn))))) (fn:=Tryz.f23) (locs:=[2]) (sh:= .any) (fz:=false) (by kernel_rfl) (fun hc=>(lp_of (by kernel_rfl) (lp_cons (f23_l4_ok hc) lp_nil))) (mc:=fun X a K=>f23_c a K) (fun _ _ _=>by kernel_rfl) (by intros;simp only [f23_m,f23_c,n1,n2,n3,n4,n5,n6,n7,n8]) (fun _=>rfl)
def f12_s:FS (Unit) (Bool) where
 sk:=⟨.nil,[],0⟩
 a:=fun u=>()
 n:=fun a=>((),())
 o:=fun Z a r K=>K (.bool r) ⟨[],0⟩
def f12_c {X:Type} (a:Unit) (K:Bool→Option X):Option X:=
 (f21_m (([(17,(0,(0,(0,(0,(0,(1,(-1)))))))),(1,(1,(0,(0,(2,(0,(2,(-1)))))))),(4,(2,(0,(1,(0,(1,(3,(-1)))))))),(13,(0,(2,(0,(0,(0,(4,(-1)))))))),(18,(0,(0,(0,(0,(0,(0,(-1))))))))]:List TInstr),(0,(3,(0,([],(([((str [120]),(3,0))]:List TScalar),([],([(0,0),(0,2)]:List TItv))))))))).bind fun r1=>
 cond (decide ((nt (List.length r1))=(5:Int)))
 (ask (V.inRange 0 (List.length r1)) (cond (gx r1 0 dMods).1
 (ask (V.inRange 0 (List.length r1)) (cond (decide ((nt (List.length (gx r1 0 dMods).2.1))=(1:Int)))
 (ask (V.inRange 0 (List.length r1)) (ask (V.inRange 0 (List.length (gx r1 0 dMods).2.1)) (cond (((gx (gx r1 0 dMods).2.1 0 dCongr).1==false)&&((decide ((gx (gx r1 0 dMods).2.1 0 dCongr).2.1=(2:Int)))&&((decide ((gx (gx r1 0 dMods).2.1 0 dCongr).2.2=(0:Int)))&&true)))
 (ask (V.inRange 0 (List.length r1)) ((f30_m ((([(17,(0,(0,(0,(0,(0,(1,(-1)))))))),(1,(1,(0,(0,(2,(0,(2,(-1)))))))),(4,(2,(0,(1,(0,(1,(3,(-1)))))))),(13,(0,(2,(0,(0,(0,(4,(-1)))))))),(18,(0,(0,(0,(0,(0,(0,(-1))))))))]:List TInstr),(0,(3,(0,([],(([((str [120]),(3,0))]:List TScalar),([],([(0,0),(0,2)]:List TItv)))))))),(gx r1 0 dMods))).bind fun r2=>
 cond (r2.toList==(str [120,32,105,115,32,48,32,109,111,100,32,50,10]).toList)
 (ask (V.inRange 0 (List.length r1)) ((f13_m ((([(17,(0,(0,(0,(0,(0,(1,(-1)))))))),(1,(1,(0,(0,(2,(0,(2,(-1)))))))),(4,(2,(0,(1,(0,(1,(3,(-1)))))))),(13,(0,(2,(0,(0,(0,(4,(-1)))))))),(18,(0,(0,(0,(0,(0,(0,(-1))))))))]:List TInstr),(0,(3,(0,([],(([((str [120]),(3,0))]:List TScalar),([],([(0,0),(0,2)]:List TItv)))))))),(gx r1 0 dMods),2)).bind fun r3=>
 cond ((r3.1==false)&&((decide (r3.2.1=(2:Int)))&&((decide (r3.2.2=(0:Int)))&&true)))
 ((f23_m ((([(17,(0,(0,(0,(0,(0,(1,(-1)))))))),(1,(1,(0,(0,(2,(0,(2,(-1)))))))),(4,(2,(0,(1,(0,(1,(3,(-1)))))))),(13,(0,(2,(0,(0,(0,(4,(-1)))))))),(18,(0,(0,(0,(0,(0,(0,(-1))))))))]:List TInstr),(0,(3,(0,([],(([((str [120]),(3,0))]:List TScalar),([],([(0,0),(0,2)]:List TItv)))))))),r1)).bind fun r4=>
 K r4)
 (K false)))
 (K false)))
 (K false))))
 (K false)))
 (K false)))
 (K false)
def f12_m (a:Unit):Option (Bool):=f12_c a some
def f12_sp:Spec:=f12_s.sp f12_m
noncomputable def f12_e:Env:=⟨fun k=>[].contains k,callsL [(45,f45_sp),(21,f21_sp),(30,f30_sp),(13,f13_sp),(23,f23_sp)],fun X k s K=>none⟩
theorem f12_ok:OK (166020696663385964548) 12 (f12_s.sp f12_m):=
 fnOK (d:=166020696663385964547) (env:=f12_e) (callsL_sim (cc f45_ok (cc f21_ok (cc f30_ok (cc f13_ok (cc f23_ok cn)))))) (fn:=Tryz.f12) (locs:=[]) (sh:= .any) (fz:=false) (by kernel_rfl) (fun hc=>(lp_of (by kernel_rfl) lp_nil)) (mc:=fun X a K=>f12_c a K) (fun _ _ _=>by kernel_rfl) (by intros;simp only [f12_m,f12_c,n1,n2,n3,n4,n5,n6,n7,n8]) (fun _=>rfl)
end
end Go.U
end
