/- The functions of the program as Lean functions, and that the evaluator says so. -/
import Derived.Test.YtcbcifeaalkdfaaGreatDoorC6
set_option linter.unusedVariables false
set_option linter.unusedSimpArgs false
set_option linter.unusedSectionVars false
section
set_option maxRecDepth 100000
namespace Go.U
open Go Go.Proofs
noncomputable section
def f26v1_s:FS (Bool×Bool×(List TCongr)×(List TCongr)×(List TCongr)×(List TCongr)) (TMods) where
 sk:=⟨(.cons (.agg (.cons .bool (.cons (.all 0) (.cons (.all 1) .nil)))) (.cons (.agg (.cons .bool (.cons (.all 2) (.cons (.all 3) .nil)))) .nil)),[.cells cCongr,.cells cCongr,.cells cCongr,.cells cCongr],0⟩
 a:=fun u=>(u.1.1.1,u.1.2.1.1,u.2.1,u.2.2.1,u.2.2.2.1,u.2.2.2.2.1)
 n:=fun a=>(((a.1,((),((),()))),((a.2.1,((),((),()))),())),(a.2.2.1,(a.2.2.2.1,(a.2.2.2.2.1,(a.2.2.2.2.2,())))))
 o:=fun Z a r K=>K (.agg [.bool r.1,.lit cCongr r.2.1,.lit cCongr r.2.2]) ⟨[.cells cCongr a.2.2.1,.cells cCongr a.2.2.2.1,.cells cCongr a.2.2.2.2.1,.cells cCongr a.2.2.2.2.2],0⟩
def f26v1_q9:PD (((List TCongr)×((List TCongr)×((List TCongr)×(List TCongr))))×Bool×Bool×(List TCongr)×(List TCongr)×Bool) ((List TCongr)×(List TCongr)) where
 sk:=⟨[(4,.v (.ptr 4 0)),(5,.v (.ptr 5 0)),(33,.v (.fn 116 (.cons (.ptr 8 0) (.cons (.ptr 9 0) .nil))))],[],[.cells cCongr,.cells cCongr,.cells cCongr,.cells cCongr,.opn (.cons .bool (.cons .nils (.cons .nils .nil))),.opn (.cons .bool (.cons (.all 6) (.cons (.all 7) .nil))),.cells cCongr,.cells cCongr,.opn (.cons (.ptr 5 0) .nil),.opn (.cons .bool (.cons (.all 2) (.cons (.all 3) .nil)))],0,4⟩
 p:=fun u=>((u.2.2.1,(u.2.2.2.1,(u.2.2.2.2.1,u.2.2.2.2.2.1))),u.2.2.2.2.2.2.1.1,u.2.2.2.2.2.2.2.1.1,u.2.2.2.2.2.2.2.2.1,u.2.2.2.2.2.2.2.2.2.1,u.2.2.2.2.2.2.2.2.2.2.2.1.1)
 n:=fun p=>(((),((),(((),((),())),()))),((),(p.1.1,(p.1.2.1,(p.1.2.2.1,(p.1.2.2.2,((p.2.1,((),((),()))),((p.2.2.1,((),((),()))),(p.2.2.2.1,(p.2.2.2.2.1,(((),()),((p.2.2.2.2.2,((),((),()))),()))))))))))))
 st:=fun Y p ke=>(f116v2_m (p.2.2.1,p.2.2.2.1,p.2.2.2.2.1,p.2.2.2.2.2,p.1.2.2.1,p.1.2.2.2)).bind fun r1=>
  ke ((r1.1,r1.2))
 o:=fun Z p e K=>K .normal ⟨[(4,.v (.ptr 4 0)),(5,.v (.ptr 5 0))],[],⟨[.cells cCongr p.1.1,.cells cCongr p.1.2.1,.cells cCongr p.1.2.2.1,.cells cCongr p.1.2.2.2,.opn [.bool p.2.1,.nils,.nils],.opn [.bool p.2.2.1,.all 6,.all 7],.cells cCongr e.1,.cells cCongr e.2],0⟩,4⟩
 pol:=⟨[4,5,33],[],[],[]⟩
 pe:=[(.normal,⟨[4,5],[],[],[]⟩)]
def f26v1_c {X:Type} (a:Bool×Bool×(List TCongr)×(List TCongr)×(List TCongr)×(List TCongr)) (K:TMods→Option X):Option X:=
 cond (!a.1)
 (cond (!a.2.1)
 (K (false,([],[])))
 (cond (!a.1)
 ((f49v1_m (a.2.1,a.2.2.2.2.1,a.2.2.2.2.2)).bind fun r1=>
 K (a.2.1,a.2.2.2.2))
 (cond (!a.2.1)
 ((f49v1_m (a.1,a.2.2.1,a.2.2.2.1)).bind fun r2=>
 K (a.1,(a.2.2.1,a.2.2.2.1)))
 ((f49v1_m (a.1,a.2.2.1,a.2.2.2.1)).bind fun r3=>
 (f26v1_q9.m (a.2.2,false,a.1,a.2.2.1,a.2.2.2.1,a.2.1)).bind fun e4=>
 K (a.1,e4)))))
 (cond (!a.1)
 ((f49v1_m (a.2.1,a.2.2.2.2.1,a.2.2.2.2.2)).bind fun r5=>
 K (a.2.1,a.2.2.2.2))
 (cond (!a.2.1)
 ((f49v1_m (a.1,a.2.2.1,a.2.2.2.1)).bind fun r6=>
 K (a.1,(a.2.2.1,a.2.2.2.1)))
 ((f49v1_m (a.1,a.2.2.1,a.2.2.2.1)).bind fun r7=>
 (f26v1_q9.m (a.2.2,false,a.1,a.2.2.1,a.2.2.2.1,a.2.1)).bind fun e8=>
 K (a.1,e8))))
def f26v1_m (a:Bool×Bool×(List TCongr)×(List TCongr)×(List TCongr)×(List TCongr)):Option (TMods):=f26v1_c a some
def f26v1_sp:Spec:=f26v1_s.sp f26v1_m
noncomputable def f26v1_e:Env:=⟨fun k=>[].contains k,callsL [(49,f49v1_sp),(63,f63v2_sp),(116,f116v2_sp)],fun X k s K=>if k=9 then f26v1_q9.q X s K else none⟩
theorem f26v1_q9_ok {C:V.Callee} (hc:SimCall C f26v1_e.call):LoopSim f26v1_e.loop (vc par C true [] 44) (.rangeFunc (rfG (subAt [1,1,1,0,1,0] (bodyOf Tryz.f26))) (rfPs (subAt [1,1,1,0,1,0] (bodyOf Tryz.f26))) (rfA (subAt [1,1,1,0,1,0] (bodyOf Tryz.f26))) (rfB (subAt [1,1,1,0,1,0] (bodyOf Tryz.f26)))):=
 range_form glob_ok (env:=f26v1_e) (env0:=f26v1_e) hc rfl (id:=260009) (ks:=[]) (by kernel_rfl) f26v1_q9 (by kernel_rfl) (by intros;simp only [f26v1_q9,PD.m,n1,n2,n3,n4,n5,n6,n7,n8]) (fun _=>by kernel_rfl) (fun _=>rfl) (fun _ _ _ _=>rfl) (fun _ _ _=>by kernel_rfl)
theorem f26v1_ok:OK (8) 26 (f26v1_s.sp f26v1_m):=
 fnOK (d:=7) (env:=f26v1_e) (callsL_sim (cc f49v1_ok (cc f63v2_ok (cc f116v2_ok cn)))) (fn:=Tryz.f26) (locs:=[]) (sh:=(.agg [.any,(.lit cCongr),(.lit cCongr)])) (fz:=true) (by kernel_rfl) (fun hc=>(lp_of (by kernel_rfl) (lp_cons (f26v1_q9_ok hc) lp_nil))) (mc:=fun X a K=>f26v1_c a K) (fun _ _ _=>by kernel_rfl) (by intros;simp only [f26v1_m,f26v1_c,n1,n2,n3,n4,n5,n6,n7,n8]) (fun _=>rfl)
def y250004v1_s:FS (Nat×TCongr×Bool×(List TCongr)) ((Unit) ⊕ (Unit)) where
 sk:=⟨(.cons (.yl 0) (.cons (.pel 2 0) (.cons (.agg (.cons .bool (.cons (.int .i64) (.cons (.int .i64) .nil)))) .nil))),[.loop 250004 [(4,(.ptr 1 0))] .ready .normal,.opn (.cons .bool .nil),.cells cCongr],0⟩
 a:=fun u=>(u.1.2.1,(u.1.2.2.1.1,(u.1.2.2.1.2.1,u.1.2.2.1.2.2.1)),u.2.2.1.1,u.2.2.2.1)
 n:=fun a=>(((),(a.1,((a.2.1.1,(a.2.1.2.1,(a.2.1.2.2,()))),()))),(((),()),((a.2.2.1,()),(a.2.2.2,()))))
 o:=fun Z a r K=>Sum.elim (fun e=>K (.bool false) ⟨[.loop 250004 [(4,.ptr 1 0)] .done .ret,.opn [.bool false],.cells cCongr a.2.2.2],0⟩) (fun e=>K (.bool true) ⟨[.loop 250004 [(4,.ptr 1 0)] .ready .normal,.opn [.bool a.2.2.1],.cells cCongr a.2.2.2],0⟩) r
def y250004v1_c {X:Type} (a:Nat×TCongr×Bool×(List TCongr)) (K:(Unit) ⊕ (Unit)→Option X):Option X:=
 (f27_m ((gx a.2.2.2 a.1 dCongr),a.2.1)).bind fun r1=>
 cond (!r1)
 (K (.inl ()))
 (K (.inr (())))
def y250004v1_m (a:Nat×TCongr×Bool×(List TCongr)):Option ((Unit) ⊕ (Unit)):=y250004v1_c a some
def y250004v1_sp:Spec:=y250004v1_s.sp y250004v1_m
noncomputable def y250004v1_e:Env:=⟨fun k=>[].contains k,callsL [(27,f27_sp)],fun X k s K=>none⟩
theorem y250004v1_ok:OKY (7) y250004v1_sp:=
 ylOK (d:=6) (env:=y250004v1_e) (callsL_sim (cc f27_ok cn)) (id:=250004) (r:=rfT 250004) rfl (fun hc=>(lp_of (by kernel_rfl) lp_nil)) (fun hc=>(lp_of (by kernel_rfl) lp_nil)) (mc:=fun X a K=>y250004v1_c a K) (fun _ _ _=>by kernel_rfl) (by intros;simp only [y250004v1_m,y250004v1_c,n1,n2,n3,n4,n5,n6,n7,n8]) (fun _=>rfl)
def f116v3_s:FS (Bool×(List TCongr)×(List TCongr)×Bool×(List TCongr)×(List TCongr)×Bool) ((Unit) ⊕ (Unit)) where
 sk:=⟨(.cons (.yl 7) (.cons (.ptr 0 0) (.cons (.ptr 4 0) .nil))),[.opn (.cons (.ptr 1 0) .nil),.opn (.cons .bool (.cons (.all 2) (.cons (.all 3) .nil))),.cells cCongr,.cells cCongr,.opn (.cons .bool (.cons (.all 5) (.cons (.all 6) .nil))),.cells cCongr,.cells cCongr,.loop 250004 [(4,(.ptr 8 0))] .ready .normal,.opn (.cons .bool .nil)],0⟩
 a:=fun u=>(u.2.2.1.1,u.2.2.2.1,u.2.2.2.2.1,u.2.2.2.2.2.1.1,u.2.2.2.2.2.2.1,u.2.2.2.2.2.2.2.1,u.2.2.2.2.2.2.2.2.2.1.1)
 n:=fun a=>(((),((),((),()))),(((),()),((a.1,((),((),()))),(a.2.1,(a.2.2.1,((a.2.2.2.1,((),((),()))),(a.2.2.2.2.1,(a.2.2.2.2.2.1,(((),()),((a.2.2.2.2.2.2,()),()))))))))))
 o:=fun Z a r K=>Sum.elim (fun e=>K (.tup []) ⟨[.opn [.ptr 1 0],.opn [.bool a.1,.all 2,.all 3],.cells cCongr a.2.1,.cells cCongr a.2.2.1,.opn [.bool a.2.2.2.1,.all 5,.all 6],.cells cCongr a.2.2.2.2.1,.cells cCongr a.2.2.2.2.2.1,.loop 250004 [(4,.ptr 8 0)] .done .ret,.opn [.bool false]],0⟩) (fun e=>K (.tup []) ⟨[.opn [.ptr 1 0],.opn [.bool a.1,.all 2,.all 3],.cells cCongr a.2.1,.cells cCongr a.2.2.1,.opn [.bool a.2.2.2.1,.all 5,.all 6],.cells cCongr a.2.2.2.2.1,.cells cCongr a.2.2.2.2.2.1,.loop 250004 [(4,.ptr 8 0)] .ready .normal,.opn [.bool a.2.2.2.2.2.2]],0⟩) r
def f116v3_l1:LD (Int×(Bool×((List TCongr)×((List TCongr)×(Bool×((List TCongr)×((List TCongr)×Bool))))))) (Int) ((Unit) ⊕ (Unit)) where
 sk:=⟨[(0,.v (.yl 7)),(1,.v (.ptr 0 0)),(2,.v (.ptr 4 0)),(10,.v (.int .i64)),(11,.v (.int .i64))],[],[.opn (.cons (.ptr 1 0) .nil),.opn (.cons .bool (.cons (.all 2) (.cons (.all 3) .nil))),.cells cCongr,.cells cCongr,.opn (.cons .bool (.cons (.all 5) (.cons (.all 6) .nil))),.cells cCongr,.cells cCongr,.loop 250004 [(4,(.ptr 8 0))] .ready .normal,.opn (.cons .bool .nil)],0,9⟩
 p:=fun u=>(u.1.2.2.2.1,(u.2.2.2.1.1,(u.2.2.2.2.1,(u.2.2.2.2.2.1,(u.2.2.2.2.2.2.1.1,(u.2.2.2.2.2.2.2.1,(u.2.2.2.2.2.2.2.2.1,u.2.2.2.2.2.2.2.2.2.2.1.1)))))))
 t:=fun u=>u.1.2.2.2.2.1
 n:=fun p t=>(((),((),((),(p.1,(t,()))))),((),(((),()),((p.2.1,((),((),()))),(p.2.2.1,(p.2.2.2.1,((p.2.2.2.2.1,((),((),()))),(p.2.2.2.2.2.1,(p.2.2.2.2.2.2.1,(((),()),((p.2.2.2.2.2.2.2,()),())))))))))))
 st:=fun Y p t ki ke=>cond (decide (t<p.1))
  (ask (V.inRange t (List.length p.2.2.1)) (ask (V.inRange t (List.length p.2.2.2.2.2.1)) ((y250004v1_m ((Int.toNat t),(gx p.2.2.2.2.2.1 (Int.toNat t) dCongr),p.2.2.2.2.2.2.2,p.2.2.1)).bind fun r1=>
  Sum.elim (fun r2=>ke (.inl ()))
  (fun r3=>ki ((wi64 (t+(1:Int))))) r1)))
  (ke (.inr (())))
 o:=fun Z p e K=>Sum.elim (fun e=>K .ret ⟨[],[],⟨[.opn [.ptr 1 0],.opn [.bool p.2.1,.all 2,.all 3],.cells cCongr p.2.2.1,.cells cCongr p.2.2.2.1,.opn [.bool p.2.2.2.2.1,.all 5,.all 6],.cells cCongr p.2.2.2.2.2.1,.cells cCongr p.2.2.2.2.2.2.1,.loop 250004 [(4,.ptr 8 0)] .done .ret,.opn [.bool false]],0⟩,9⟩) (fun e=>K (.exit 0) ⟨[(0,.v (.yl 7)),(1,.v (.ptr 0 0)),(2,.v (.ptr 4 0))],[],⟨[.opn [.ptr 1 0],.opn [.bool p.2.1,.all 2,.all 3],.cells cCongr p.2.2.1,.cells cCongr p.2.2.2.1,.opn [.bool p.2.2.2.2.1,.all 5,.all 6],.cells cCongr p.2.2.2.2.2.1,.cells cCongr p.2.2.2.2.2.2.1,.loop 250004 [(4,.ptr 8 0)] .ready .normal,.opn [.bool p.2.2.2.2.2.2.2]],0⟩,9⟩) e
 pol:=⟨[0,1,2,10,11],[],[],[]⟩
 pe:=[(.ret,⟨[],[],[],[]⟩),(.exit 0,⟨[0,1,2],[],[],[]⟩)]
def f116v3_l6:LD (Int×(Bool×((List TCongr)×((List TCongr)×(Bool×((List TCongr)×((List TCongr)×Bool))))))) (Int) ((Unit) ⊕ (Unit)) where
 sk:=⟨[(0,.v (.yl 7)),(1,.v (.ptr 0 0)),(2,.v (.ptr 4 0)),(33,.v (.int .i64)),(34,.v (.int .i64))],[],[.opn (.cons (.ptr 1 0) .nil),.opn (.cons .bool (.cons (.all 2) (.cons (.all 3) .nil))),.cells cCongr,.cells cCongr,.opn (.cons .bool (.cons (.all 5) (.cons (.all 6) .nil))),.cells cCongr,.cells cCongr,.loop 250004 [(4,(.ptr 8 0))] .ready .normal,.opn (.cons .bool .nil)],0,9⟩
 p:=fun u=>(u.1.2.2.2.1,(u.2.2.2.1.1,(u.2.2.2.2.1,(u.2.2.2.2.2.1,(u.2.2.2.2.2.2.1.1,(u.2.2.2.2.2.2.2.1,(u.2.2.2.2.2.2.2.2.1,u.2.2.2.2.2.2.2.2.2.2.1.1)))))))
 t:=fun u=>u.1.2.2.2.2.1
 n:=fun p t=>(((),((),((),(p.1,(t,()))))),((),(((),()),((p.2.1,((),((),()))),(p.2.2.1,(p.2.2.2.1,((p.2.2.2.2.1,((),((),()))),(p.2.2.2.2.2.1,(p.2.2.2.2.2.2.1,(((),()),((p.2.2.2.2.2.2.2,()),())))))))))))
 st:=fun Y p t ki ke=>cond (decide (t<p.1))
  (ask (V.inRange t (List.length p.2.2.2.1)) (ask (V.inRange t (List.length p.2.2.2.2.2.2.1)) ((y250004v1_m ((Int.toNat t),(gx p.2.2.2.2.2.2.1 (Int.toNat t) dCongr),p.2.2.2.2.2.2.2,p.2.2.2.1)).bind fun r1=>
  Sum.elim (fun r2=>ke (.inl ()))
  (fun r3=>ki ((wi64 (t+(1:Int))))) r1)))
  (ke (.inr (())))
 o:=fun Z p e K=>Sum.elim (fun e=>K .ret ⟨[],[],⟨[.opn [.ptr 1 0],.opn [.bool p.2.1,.all 2,.all 3],.cells cCongr p.2.2.1,.cells cCongr p.2.2.2.1,.opn [.bool p.2.2.2.2.1,.all 5,.all 6],.cells cCongr p.2.2.2.2.2.1,.cells cCongr p.2.2.2.2.2.2.1,.loop 250004 [(4,.ptr 8 0)] .done .ret,.opn [.bool false]],0⟩,9⟩) (fun e=>K (.exit 2) ⟨[],[],⟨[.opn [.ptr 1 0],.opn [.bool p.2.1,.all 2,.all 3],.cells cCongr p.2.2.1,.cells cCongr p.2.2.2.1,.opn [.bool p.2.2.2.2.1,.all 5,.all 6],.cells cCongr p.2.2.2.2.2.1,.cells cCongr p.2.2.2.2.2.2.1,.loop 250004 [(4,.ptr 8 0)] .ready .normal,.opn [.bool p.2.2.2.2.2.2.2]],0⟩,9⟩) e
 pol:=⟨[0,1,2,33,34],[],[],[]⟩
 pe:=[(.ret,⟨[],[],[],[]⟩),(.exit 2,⟨[],[],[],[]⟩)]
def f116v3_c {X:Type} (a:Bool×(List TCongr)×(List TCongr)×Bool×(List TCongr)×(List TCongr)×Bool) (K:(Unit) ⊕ (Unit)→Option X):Option X:=
 (loopAll (f116v3_l1.m ((nt (List.length a.2.1)),a)) 0).bind fun e1=>
 Sum.elim (fun e2=>K (.inl ()))
 (fun e3=>(loopAll (f116v3_l6.m ((nt (List.length a.2.2.1)),a)) 0).bind fun e4=>
 Sum.elim (fun e5=>K (.inl ()))
 (fun e6=>K (.inr (()))) e4) e1
def f116v3_m (a:Bool×(List TCongr)×(List TCongr)×Bool×(List TCongr)×(List TCongr)×Bool):Option ((Unit) ⊕ (Unit)):=f116v3_c a some
def f116v3_sp:Spec:=f116v3_s.sp f116v3_m
noncomputable def f116v3_e:Env:=⟨fun k=>[].contains k,callsYL [] [(250004,y250004v1_sp)],fun X k s K=>if k=1 then f116v3_l1.q X s K else if k=6 then f116v3_l6.q X s K else none⟩
noncomputable def f116v3_l1_c:Code:=subAt [0,1,0,0] (bodyOf Tryz.f116)
theorem f116v3_l1_ok {C:V.Callee} (hc:SimCall C f116v3_e.call):LoopSim f116v3_e.loop (vc par C true [] 52) (.loop f116v3_l1_c):=
 loop_form glob_ok hc (lp_of (by kernel_rfl) lp_nil) f116v3_l1 (by kernel_rfl) (by intros;simp only [f116v3_l1,LD.m,n1,n2,n3,n4,n5,n6,n7,n8]) (fun _ _=>by kernel_rfl) (fun _=>rfl) (fun _ _ e _=>by rcases e with e|e<;>rfl) (fun _ _ _=>by kernel_rfl)
noncomputable def f116v3_l6_c:Code:=subAt [1,1,0,0] (bodyOf Tryz.f116)
theorem f116v3_l6_ok {C:V.Callee} (hc:SimCall C f116v3_e.call):LoopSim f116v3_e.loop (vc par C true [] 52) (.loop f116v3_l6_c):=
 loop_form glob_ok hc (lp_of (by kernel_rfl) lp_nil) f116v3_l6 (by kernel_rfl) (by intros;simp only [f116v3_l6,LD.m,n1,n2,n3,n4,n5,n6,n7,n8]) (fun _ _=>by kernel_rfl) (fun _=>rfl) (fun _ _ e _=>by rcases e with e|e<;>rfl) (fun _ _ _=>by kernel_rfl)
theorem f116v3_ok:OK (8) 116 (f116v3_s.sp f116v3_m):=
 fnOK (d:=7) (env:=f116v3_e) (callsYL_sim cn (ccy y250004v1_ok cyn)) (fn:=Tryz.f116) (locs:=[]) (sh:= .any) (fz:=false) (by kernel_rfl) (fun hc=>(lp_of (by kernel_rfl) (lp_cons (f116v3_l1_ok hc) (lp_cons (f116v3_l6_ok hc) lp_nil)))) (mc:=fun X a K=>f116v3_c a K) (fun _ _ _=>by kernel_rfl) (by intros;simp only [f116v3_m,f116v3_c,n1,n2,n3,n4,n5,n6,n7,n8]) (fun _=>rfl)
def f25v1_s:FS (Bool×Bool×(List TCongr)×(List TCongr)×(List TCongr)×(List TCongr)) (Bool) where
 sk:=⟨(.cons (.agg (.cons .bool (.cons (.all 0) (.cons (.all 1) .nil)))) (.cons (.agg (.cons .bool (.cons (.all 2) (.cons (.all 3) .nil)))) .nil)),[.cells cCongr,.cells cCongr,.cells cCongr,.cells cCongr],0⟩
 a:=fun u=>(u.1.1.1,u.1.2.1.1,u.2.1,u.2.2.1,u.2.2.2.1,u.2.2.2.2.1)
 n:=fun a=>(((a.1,((),((),()))),((a.2.1,((),((),()))),())),(a.2.2.1,(a.2.2.2.1,(a.2.2.2.2.1,(a.2.2.2.2.2,())))))
 o:=fun Z a r K=>K (.bool r) ⟨[.cells cCongr a.2.2.1,.cells cCongr a.2.2.2.1,.cells cCongr a.2.2.2.2.1,.cells cCongr a.2.2.2.2.2],0⟩
def f25v1_q4:PD (((List TCongr)×((List TCongr)×((List TCongr)×(List TCongr))))×Bool×Bool×Bool) ((Unit) ⊕ (Unit)) where
 sk:=⟨[(4,.v (.ptr 4 0)),(19,.v (.fn 116 (.cons (.ptr 5 0) (.cons (.ptr 7 0) .nil))))],[],[.cells cCongr,.cells cCongr,.cells cCongr,.cells cCongr,.opn (.cons .bool .nil),.opn (.cons (.ptr 6 0) .nil),.opn (.cons .bool (.cons (.all 0) (.cons (.all 1) .nil))),.opn (.cons .bool (.cons (.all 2) (.cons (.all 3) .nil)))],0,4⟩
 p:=fun u=>((u.2.2.1,(u.2.2.2.1,(u.2.2.2.2.1,u.2.2.2.2.2.1))),u.2.2.2.2.2.2.1.1,u.2.2.2.2.2.2.2.2.1.1,u.2.2.2.2.2.2.2.2.2.1.1)
 n:=fun p=>(((),(((),((),())),())),((),(p.1.1,(p.1.2.1,(p.1.2.2.1,(p.1.2.2.2,((p.2.1,()),(((),()),((p.2.2.1,((),((),()))),((p.2.2.2,((),((),()))),()))))))))))
 st:=fun Y p ke=>(f116v3_m (p.2.2.1,p.1.1,p.1.2.1,p.2.2.2,p.1.2.2.1,p.1.2.2.2,p.2.1)).bind fun r1=>
  Sum.elim (fun r2=>ke (.inl ()))
  (fun r3=>ke (.inr (()))) r1
 o:=fun Z p e K=>Sum.elim (fun e=>K .ret ⟨[(4,.v (.ptr 4 0))],[],⟨[.cells cCongr p.1.1,.cells cCongr p.1.2.1,.cells cCongr p.1.2.2.1,.cells cCongr p.1.2.2.2,.opn [.bool false]],0⟩,4⟩) (fun e=>K .normal ⟨[(4,.v (.ptr 4 0))],[],⟨[.cells cCongr p.1.1,.cells cCongr p.1.2.1,.cells cCongr p.1.2.2.1,.cells cCongr p.1.2.2.2,.opn [.bool p.2.1]],0⟩,4⟩) e
 pol:=⟨[4,19],[],[],[]⟩
 pe:=[(.ret,⟨[4],[],[],[]⟩),(.normal,⟨[4],[],[],[]⟩)]
def f25v1_c {X:Type} (a:Bool×Bool×(List TCongr)×(List TCongr)×(List TCongr)×(List TCongr)) (K:Bool→Option X):Option X:=
 cond (!a.1)
 (K (!a.1))
 (cond (!a.2.1)
 (K (!a.1))
 ((f25v1_q4.m (a.2.2,false,a.1,a.2.1)).bind fun e1=>
 Sum.elim (fun e2=>K false)
 (fun e3=>K true) e1))
def f25v1_m (a:Bool×Bool×(List TCongr)×(List TCongr)×(List TCongr)×(List TCongr)):Option (Bool):=f25v1_c a some
def f25v1_sp:Spec:=f25v1_s.sp f25v1_m
noncomputable def f25v1_e:Env:=⟨fun k=>[].contains k,callsL [(63,f63v2_sp),(116,f116v3_sp)],fun X k s K=>if k=4 then f25v1_q4.q X s K else none⟩
theorem f25v1_q4_ok {C:V.Callee} (hc:SimCall C f25v1_e.call):LoopSim f25v1_e.loop (vc par C true [] 28) (.rangeFunc (rfG (subAt [1,1,0,1,0] (bodyOf Tryz.f25))) (rfPs (subAt [1,1,0,1,0] (bodyOf Tryz.f25))) (rfA (subAt [1,1,0,1,0] (bodyOf Tryz.f25))) (rfB (subAt [1,1,0,1,0] (bodyOf Tryz.f25)))):=
 range_form glob_ok (env:=f25v1_e) (env0:=f25v1_e) hc rfl (id:=250004) (ks:=[4]) (by kernel_rfl) f25v1_q4 (by kernel_rfl) (by intros;simp only [f25v1_q4,PD.m,n1,n2,n3,n4,n5,n6,n7,n8]) (fun _=>by kernel_rfl) (fun _=>rfl) (fun _ _ e _=>by rcases e with e|e<;>rfl) (fun _ _ _=>by kernel_rfl)
theorem f25v1_ok:OK (9) 25 (f25v1_s.sp f25v1_m):=
 fnOK (d:=8) (env:=f25v1_e) (callsL_sim (cc f63v2_ok (cc f116v3_ok cn))) (fn:=Tryz.f25) (locs:=[]) (sh:= .any) (fz:=false) (by kernel_rfl) (fun hc=>(lp_of (by kernel_rfl) (lp_cons (f25v1_q4_ok hc) lp_nil))) (mc:=fun X a K=>f25v1_c a K) (fun _ _ _=>by kernel_rfl) (by intros;simp only [f25v1_m,f25v1_c,n1,n2,n3,n4,n5,n6,n7,n8]) (fun _=>rfl)
def f65_s:FS (TCongr×Int) (Bool) where
 sk:=⟨(.cons (.agg (.cons .bool (.cons (.int .i64) (.cons (.int .i64) .nil)))) (.cons (.int .i64) .nil)),[],0⟩
 a:=fun u=>((u.1.1.1,(u.1.1.2.1,u.1.1.2.2.1)),u.1.2.1)
 n:=fun a=>(((a.1.1,(a.1.2.1,(a.1.2.2,()))),(a.2,())),())
 o:=fun Z a r K=>K (.bool r) ⟨[],0⟩
def f65_c {X:Type} (a:TCongr×Int) (K:Bool→Option X):Option X:=
 cond a.1.1
 (K false)
 (cond (decide (a.2<(-2147483648:Int)))
 (K false)
 (cond (decide ((2147483647:Int)<a.2))
 (K false)
 (cond (decide (a.1.2.1=(0:Int)))
 (K (decide (a.2=a.1.2.2)))
 (cond (decide (a.1.2.1=(0:Int)))
 (none)
 (K (decide ((Int.tmod (wi64 (a.2-a.1.2.2)) a.1.2.1)=(0:Int))))))))
def f65_m (a:TCongr×Int):Option (Bool):=f65_c a some
def f65_sp:Spec:=f65_s.sp f65_m
noncomputable def f65_e:Env:=⟨fun k=>[].contains k,callsL [],fun X k s K=>none⟩
theorem f65_ok:OK (1) 65 (f65_s.sp f65_m):=
 fnOK (d:=0) (env:=f65_e) (callsL_sim cn) (fn:=Tryz.f65) (locs:=[2]) (sh:= .any) (fz:=false) (by kernel_rfl) (fun hc=>(lp_of (by kernel_rfl) lp_nil)) (mc:=fun X a K=>f65_c a K) (fun _ _ _=>by kernel_rfl) (by intros;simp only [f65_m,f65_c,n1,n2,n3,n4,n5,n6,n7,n8]) (fun _=>rfl)
def f126_s:FS (TCongr×TCongr) (Bool) where
 sk:=⟨(.cons (.agg (.cons .bool (.cons (.int .i64) (.cons (.int .i64) .nil)))) (.cons (.agg (.cons .bool (.cons (.int .i64) (.cons (.int .i64) .nil)))) .nil)),[],0⟩
 a:=fun u=>((u.1.1.1,(u.1.1.2.1,u.1.1.2.2.1)),(u.1.2.1.1,(u.1.2.1.2.1,u.1.2.1.2.2.1)))
 n:=fun a=>(((a.1.1,(a.1.2.1,(a.1.2.2,()))),((a.2.1,(a.2.2.1,(a.2.2.2,()))),())),())
 o:=fun Z a r K=>K (.bool r) ⟨[],0⟩
def f126_c {X:Type} (a:TCongr×TCongr) (K:Bool→Option X):Option X:=
 cond a.1.1
 (K a.1.1)
 (cond a.2.1
 (K a.1.1)
 (cond (decide (a.1.2.1=(0:Int)))
 ((f65_m (a.2,a.1.2.2)).bind fun r1=>
 K r1)
 (cond (!(decide (a.2.2.1=(0:Int))))
 (cond (decide (a.2.2.1=(0:Int)))
 (none)
 (cond (decide ((Int.tmod a.1.2.1 a.2.2.1)=(0:Int)))
 (cond (decide (a.2.2.1=(0:Int)))
 (none)
 (K (decide ((Int.tmod (wi64 (a.1.2.2-a.2.2.2)) a.2.2.1)=(0:Int)))))
 (K false)))
 (K false))))
def f126_m (a:TCongr×TCongr):Option (Bool):=f126_c a some
def f126_sp:Spec:=f126_s.sp f126_m
noncomputable def f126_e:Env:=⟨fun k=>[].contains k,callsL [(65,f65_sp)],fun X k s K=>none⟩
theorem f126_ok:OK (2) 126 (f126_s.sp f126_m):=
 fnOK (d:=1) (env:=f126_e) (callsL_sim (cc f65_ok cn)) (fn:=Tryz.f126) (locs:=[2,3]) (sh:= .any) (fz:=false) (by kernel_rfl) (fun hc=>(lp_of (by kernel_rfl) lp_nil)) (mc:=fun X a K=>f126_c a K) (fun _ _ _=>by kernel_rfl) (by intros;simp only [f126_m,f126_c,n1,n2,n3,n4,n5,n6,n7,n8]) (fun _=>rfl)
def f75_s:FS ((List TCongr)×(List TCongr)) (Bool) where
 sk:=⟨(.cons (.lit cCongr) (.cons (.lit cCongr) .nil)),[],0⟩
 a:=fun u=>(u.1.1,u.1.2.1)
 n:=fun a=>((a.1,(a.2,())),())
 o:=fun Z a r K=>K (.bool r) ⟨[],0⟩
def f75_l2:LD (((List TCongr)×(List TCongr))) (Int) ((Unit) ⊕ (Unit)) where
 sk:=⟨[(0,.v (.lit cCongr)),(1,.v (.lit cCongr)),(5,.v (.int .i64))],[],[],0,0⟩
 p:=fun u=>(u.1.1,u.1.2.1)
 t:=fun u=>u.1.2.2.1
 n:=fun p t=>((p.1,(p.2,(t,()))),((),()))
 st:=fun Y p t ki ke=>cond (decide (t<(nt (List.length p.1))))
  (ask (V.inRange t (List.length p.1)) (ask (V.inRange t (List.length p.2)) ((f126_m ((gx p.1 (Int.toNat t) dCongr),(gx p.2 (Int.toNat t) dCongr))).bind fun r1=>
  cond (!r1)
  (ke (.inl ()))
  (ki ((wi64 (t+(1:Int))))))))
  (ke (.inr (())))
 o:=fun Z p e K=>Sum.elim (fun e=>K .ret ⟨[(4,.v (.bool false))],[],⟨[],0⟩,0⟩) (fun e=>K (.exit 0) ⟨[],[],⟨[],0⟩,0⟩) e
 pol:=⟨[0,1,5],[],[],[]⟩
 pe:=[(.ret,⟨[4],[],[],[]⟩),(.exit 0,⟨[],[],[],[]⟩)]
def f75_c {X:Type} (a:(List TCongr)×(List TCongr)) (K:Bool→Option X):Option X:=
 (loopAll (f75_l2.m a) 0).bind fun e1=>
 Sum.elim (fun e2=>K false)
 (fun e3=>K true) e1
def f75_m (a:(List TCongr)×(List TCongr)):Option (Bool):=f75_c a some
def f75_sp:Spec:=f75_s.sp f75_m
noncomputable def f75_e:Env:=⟨fun k=>[].contains k,callsL [(126,f126_sp)],fun X k s K=>if k=2 then f75_l2.q X s K else none⟩
noncomputable def f75_l2_c:Code:=subAt [1,0,1,0,0] (bodyOf Tryz.f75)
theorem f75_l2_ok {C:V.Callee} (hc:SimCall C f75_e.call):LoopSim f75_e.loop (vc par C true [] 22) (.loop f75_l2_c):=
 loop_form glob_ok hc (lp_of (by kernel_rfl) lp_nil) f75_l2 (by kernel_rfl) (by intros;simp only [f75_l2,LD.m,n1,n2,n3,n4,n5,n6,n7,n8]) (fun _ _=>by kernel_rfl) (fun _=>rfl) (fun _ _ e _=>by rcases e with e|e<;>rfl) (fun _ _ _=>by kernel_rfl)
theorem f75_ok:OK (3) 75 (f75_s.sp f75_m):=
 fnOK (d:=2) (env:=f75_e) (callsL_sim (cc f126_ok cn)) (fn:=Tryz.f75) (locs:=[]) (sh:= .any) (fz:=false) (by kernel_rfl) (fun hc=>(lp_of (by kernel_rfl) (lp_cons (f75_l2_ok hc) lp_nil))) (mc:=fun X a K=>f75_c a K) (fun _ _ _=>by kernel_rfl) (by intros;simp only [f75_m,f75_c,n1,n2,n3,n4,n5,n6,n7,n8]) (fun _=>rfl)
def f35_s:FS (TMods×TMods) (Bool) where
 sk:=⟨(.cons (.agg (.cons .bool (.cons (.lit cCongr) (.cons (.lit cCongr) .nil)))) (.cons (.agg (.cons .bool (.cons (.lit cCongr) (.cons (.lit cCongr) .nil)))) .nil)),[],0⟩
 a:=fun u=>((u.1.1.1,(u.1.1.2.1,u.1.1.2.2.1)),(u.1.2.1.1,(u.1.2.1.2.1,u.1.2.1.2.2.1)))
 n:=fun a=>(((a.1.1,(a.1.2.1,(a.1.2.2,()))),((a.2.1,(a.2.2.1,(a.2.2.2,()))),())),())
 o:=fun Z a r K=>K (.bool r) ⟨[],0⟩
def f35_c {X:Type} (a:TMods×TMods) (K:Bool→Option X):Option X:=
 cond (!a.1.1)
 (K (!a.1.1))
 (cond (!a.2.1)
 (K (!a.1.1))
 ((f75_m (a.1.2.1,a.2.2.1)).bind fun r1=>
 cond r1
 ((f75_m (a.1.2.2,a.2.2.2)).bind fun r2=>
 K r2)
 (K false)))
def f35_m (a:TMods×TMods):Option (Bool):=f35_c a some
def f35_sp:Spec:=f35_s.sp f35_m
noncomputable def f35_e:Env:=⟨fun k=>[].contains k,callsL [(75,f75_sp)],fun X k s K=>none⟩
theorem f35_ok:OK (4) 35 (f35_s.sp f35_m):=
 fnOK (d:=3) (env:=f35_e) (callsL_sim (cc f75_ok cn)) (fn:=Tryz.f35) (locs:=[2,3]) (sh:= .any) (fz:=false) (by kernel_rfl) (fun hc=>(lp_of (by kernel_rfl) lp_nil)) (mc:=fun X a K=>f35_c a K) (fun _ _ _=>by kernel_rfl) (by intros;simp only [f35_m,f35_c,n1,n2,n3,n4,n5,n6,n7,n8]) (fun _=>rfl)
def f63v3_s:FS (Bool×Bool×(List TCongr)×(List TCongr)) (Unit) where
 sk:=⟨(.cons (.ptr 0 0) (.cons (.agg (.cons .bool (.cons (.all 1) (.cons (.all 2) .nil)))) .nil)),[.opn (.cons .bool (.cons (.all 1) (.cons (.all 2) .nil))),.cells cCongr,.cells cCongr],0⟩
 a:=fun u=>(u.1.2.1.1,u.2.1.1,u.2.2.1,u.2.2.2.1)
 n:=fun a=>(((),((a.1,((),((),()))),())),((a.2.1,((),((),()))),(a.2.2.1,(a.2.2.2,()))))
 o:=fun Z a r K=>K (.fn 116 [.ptr 3 0,.ptr 4 0]) ⟨[.opn [.bool a.2.1,.all 1,.all 2],.cells cCongr a.2.2.1,.cells cCongr a.2.2.2,.opn [.ptr 0 0],.opn [.bool a.1,.all 1,.all 2]],0⟩
def f63v3_c {X:Type} (a:Bool×Bool×(List TCongr)×(List TCongr)) (K:Unit→Option X):Option X:=
 K ()
def f63v3_m (a:Bool×Bool×(List TCongr)×(List TCongr)):Option (Unit):=f63v3_c a some
def f63v3_sp:Spec:=f63v3_s.sp f63v3_m
noncomputable def f63v3_e:Env:=⟨fun k=>[].contains k,callsL [],fun X k s K=>none⟩
theorem f63v3_ok:OK (1) 63 (f63v3_s.sp f63v3_m):=
 fnOK (d:=0) (env:=f63v3_e) (callsL_sim cn) (fn:=Tryz.f63) (locs:=[]) (sh:= .any) (fz:=false) (by kernel_rfl) (fun hc=>(lp_of (by kernel_rfl) lp_nil)) (mc:=fun X a K=>f63v3_c a K) (fun _ _ _=>by kernel_rfl) (by intros;simp only [f63v3_m,f63v3_c,n1,n2,n3,n4,n5,n6,n7,n8]) (fun _=>rfl)
def f116v4_s:FS (Bool×(List TCongr)×(List TCongr)×Bool×Bool) ((Unit) ⊕ (Unit)) where
 sk:=⟨(.cons (.yl 5) (.cons (.ptr 0 0) (.cons (.ptr 4 0) .nil))),[.opn (.cons (.ptr 1 0) .nil),.opn (.cons .bool (.cons (.all 2) (.cons (.all 3) .nil))),.cells cCongr,.cells cCongr,.opn (.cons .bool (.cons (.all 2) (.cons (.all 3) .nil))),.loop 250004 [(4,(.ptr 6 0))] .ready .normal,.opn (.cons .bool .nil)],0⟩
 a:=fun u=>(u.2.2.1.1,u.2.2.2.1,u.2.2.2.2.1,u.2.2.2.2.2.1.1,u.2.2.2.2.2.2.2.1.1)
 n:=fun a=>(((),((),((),()))),(((),()),((a.1,((),((),()))),(a.2.1,(a.2.2.1,((a.2.2.2.1,((),((),()))),(((),()),((a.2.2.2.2,()),()))))))))
 o:=fun Z a r K=>Sum.elim (fun e=>K (.tup []) ⟨[.opn [.ptr 1 0],.opn [.bool a.1,.all 2,.all 3],.cells cCongr a.2.1,.cells cCongr a.2.2.1,.opn [.bool a.2.2.2.1,.all 2,.all 3],.loop 250004 [(4,.ptr 6 0)] .done .ret,.opn [.bool false]],0⟩) (fun e=>K (.tup []) ⟨[.opn [.ptr 1 0],.opn [.bool a.1,.all 2,.all 3],.cells cCongr a.2.1,.cells cCongr a.2.2.1,.opn [.bool a.2.2.2.1,.all 2,.all 3],.loop 250004 [(4,.ptr 6 0)] .ready .normal,.opn [.bool a.2.2.2.2]],0⟩) r
def f116v4_l1:LD (Int×(Bool×((List TCongr)×((List TCongr)×TMark)))) (Int) ((Unit) ⊕ (Unit)) where
 sk:=⟨[(0,.v (.yl 5)),(1,.v (.ptr 0 0)),(2,.v (.ptr 4 0)),(10,.v (.int .i64)),(11,.v (.int .i64))],[],[.opn (.cons (.ptr 1 0) .nil),.opn (.cons .bool (.cons (.all 2) (.cons (.all 3) .nil))),.cells cCongr,.cells cCongr,.opn (.cons .bool (.cons (.all 2) (.cons (.all 3) .nil))),.loop 250004 [(4,(.ptr 6 0))] .ready .normal,.opn (.cons .bool .nil)],0,7⟩
 p:=fun u=>(u.1.2.2.2.1,(u.2.2.2.1.1,(u.2.2.2.2.1,(u.2.2.2.2.2.1,(u.2.2.2.2.2.2.1.1,u.2.2.2.2.2.2.2.2.1.1)))))
 t:=fun u=>u.1.2.2.2.2.1
 n:=fun p t=>(((),((),((),(p.1,(t,()))))),((),(((),()),((p.2.1,((),((),()))),(p.2.2.1,(p.2.2.2.1,((p.2.2.2.2.1,((),((),()))),(((),()),((p.2.2.2.2.2,()),())))))))))
 st:=fun Y p t ki ke=>cond (decide (t<p.1))
  (ask (V.inRange t (List.length p.2.2.1)) (ask (V.inRange t (List.length p.2.2.1)) ((y250004v1_m ((Int.toNat t),(gx p.2.2.1 (Int.toNat t) dCongr),p.2.2.2.2.2,p.2.2.1)).bind fun r1=>
  Sum.elim (fun r2=>ke (.inl ()))
  (fun r3=>ki ((wi64 (t+(1:Int))))) r1)))
  (ke (.inr (())))
 o:=fun Z p e K=>Sum.elim (fun e=>K .ret ⟨[],[],⟨[.opn [.ptr 1 0],.opn [.bool p.2.1,.all 2,.all 3],.cells cCongr p.2.2.1,.cells cCongr p.2.2.2.1,.opn [.bool p.2.2.2.2.1,.all 2,.all 3],.loop 250004 [(4,.ptr 6 0)] .done .ret,.opn [.bool false]],0⟩,7⟩) (fun e=>K (.exit 0) ⟨[(0,.v (.yl 5)),(1,.v (.ptr 0 0)),(2,.v (.ptr 4 0))],[],⟨[.opn [.ptr 1 0],.opn [.bool p.2.1,.all 2,.all 3],.cells cCongr p.2.2.1,.cells cCongr p.2.2.2.1,.opn [.bool p.2.2.2.2.1,.all 2,.all 3],.loop 250004 [(4,.ptr 6 0)] .ready .normal,.opn [.bool p.2.2.2.2.2]],0⟩,7⟩) e
 pol:=⟨[0,1,2,10,11],[],[],[]⟩
 pe:=[(.ret,⟨[],[],[],[]⟩),(.exit 0,⟨[0,1,2],[],[],[]⟩)]
def f116v4_l6:LD (Int×(Bool×((List TCongr)×((List TCongr)×TMark)))) (Int) ((Unit) ⊕ (Unit)) where
 sk:=⟨[(0,.v (.yl 5)),(1,.v (.ptr 0 0)),(2,.v (.ptr 4 0)),(33,.v (.int .i64)),(34,.v (.int .i64))],[],[.opn (.cons (.ptr 1 0) .nil),.opn (.cons .bool (.cons (.all 2) (.cons (.all 3) .nil))),.cells cCongr,.cells cCongr,.opn (.cons .bool (.cons (.all 2) (.cons (.all 3) .nil))),.loop 250004 [(4,(.ptr 6 0))] .ready .normal,.opn (.cons .bool .nil)],0,7⟩
 p:=fun u=>(u.1.2.2.2.1,(u.2.2.2.1.1,(u.2.2.2.2.1,(u.2.2.2.2.2.1,(u.2.2.2.2.2.2.1.1,u.2.2.2.2.2.2.2.2.1.1)))))
 t:=fun u=>u.1.2.2.2.2.1
 n:=fun p t=>(((),((),((),(p.1,(t,()))))),((),(((),()),((p.2.1,((),((),()))),(p.2.2.1,(p.2.2.2.1,((p.2.2.2.2.1,((),((),()))),(((),()),((p.2.2.2.2.2,()),())))))))))
 st:=fun Y p t ki ke=>cond (decide (t<p.1))
  (ask (V.inRange t (List.length p.2.2.2.1)) (ask (V.inRange t (List.length p.2.2.2.1)) ((y250004v1_m ((Int.toNat t),(gx p.2.2.2.1 (Int.toNat t) dCongr),p.2.2.2.2.2,p.2.2.2.1)).bind fun r1=>
  Sum.elim (fun r2=>ke (.inl ()))
  (fun r3=>ki ((wi64 (t+(1:Int))))) r1)))
  (ke (.inr (())))
 o:=fun Z p e K=>Sum.elim (fun e=>K .ret ⟨[],[],⟨[.opn [.ptr 1 0],.opn [.bool p.2.1,.all 2,.all 3],.cells cCongr p.2.2.1,.cells cCongr p.2.2.2.1,.opn [.bool p.2.2.2.2.1,.all 2,.all 3],.loop 250004 [(4,.ptr 6 0)] .done .ret,.opn [.bool false]],0⟩,7⟩) (fun e=>K (.exit 2) ⟨[],[],⟨[.opn [.ptr 1 0],.opn [.bool p.2.1,.all 2,.all 3],.cells cCongr p.2.2.1,.cells cCongr p.2.2.2.1,.opn [.bool p.2.2.2.2.1,.all 2,.all 3],.loop 250004 [(4,.ptr 6 0)] .ready .normal,.opn [.bool p.2.2.2.2.2]],0⟩,7⟩) e
 pol:=⟨[0,1,2,33,34],[],[],[]⟩
 pe:=[(.ret,⟨[],[],[],[]⟩),(.exit 2,⟨[],[],[],[]⟩)]
def f116v4_c {X:Type} (a:Bool×(List TCongr)×(List TCongr)×Bool×Bool) (K:(Unit) ⊕ (Unit)→Option X):Option X:=
 (loopAll (f116v4_l1.m ((nt (List.length a.2.1)),a)) 0).bind fun e1=>
 Sum.elim (fun e2=>K (.inl ()))
 (fun e3=>(loopAll (f116v4_l6.m ((nt (List.length a.2.2.1)),a)) 0).bind fun e4=>
 Sum.elim (fun e5=>K (.inl ()))
 (fun e6=>K (.inr (()))) e4) e1
def f116v4_m (a:Bool×(List TCongr)×(List TCongr)×Bool×Bool):Option ((Unit) ⊕ (Unit)):=f116v4_c a some
def f116v4_sp:Spec:=f116v4_s.sp f116v4_m
noncomputable def f116v4_e:Env:=⟨fun k=>[].contains k,callsYL [] [(250004,y250004v1_sp)],fun X k s K=>if k=1 then f116v4_l1.q X s K else if k=6 then f116v4_l6.q X s K else none⟩
noncomputable def f116v4_l1_c:Code:=subAt [0,1,0,0] (bodyOf Tryz.f116)
theorem f116v4_l1_ok {C:V.Callee} (hc:SimCall C f116v4_e.call):LoopSim f116v4_e.loop (vc par C true [] 52) (.loop f116v4_l1_c):=
 loop_form glob_ok hc (lp_of (by kernel_rfl) lp_nil) f116v4_l1 (by kernel_rfl) (by intros;simp only [f116v4_l1,LD.m,n1,n2,n3,n4,n5,n6,n7,n8]) (fun _ _=>by kernel_rfl) (fun _=>rfl) (fun _ _ e _=>by rcases e with e|e<;>rfl) (fun _ _ _=>by kernel_rfl)
noncomputable def f116v4_l6_c:Code:=subAt [1,1,0,0] (bodyOf Tryz.f116)
theorem f116v4_l6_ok {C:V.Callee} (hc:SimCall C f116v4_e.call):LoopSim f116v4_e.loop (vc par C true [] 52) (.loop f116v4_l6_c):=
 loop_form glob_ok hc (lp_of (by kernel_rfl) lp_nil) f116v4_l6 (by kernel_rfl) (by intros;simp only [f116v4_l6,LD.m,n1,n2,n3,n4,n5,n6,n7,n8]) (fun _ _=>by kernel_rfl) (fun _=>rfl) (fun _ _ e _=>by rcases e with e|e<;>rfl) (fun _ _ _=>by kernel_rfl)
theorem f116v4_ok:OK (8) 116 (f116v4_s.sp f116v4_m):=
 fnOK (d:=7) (env:=f116v4_e) (callsYL_sim cn (ccy y250004v1_ok cyn)) (fn:=Tryz.f116) (locs:=[]) (sh:= .any) (fz:=false) (by kernel_rfl) (fun hc=>(lp_of (by kernel_rfl) (lp_cons (f116v4_l1_ok hc) (lp_cons (f116v4_l6_ok hc) lp_nil)))) (mc:=fun X a K=>f116v4_c a K) (fun _ _ _=>by kernel_rfl) (by intros;simp only [f116v4_m,f116v4_c,n1,n2,n3,n4,n5,n6,n7,n8]) (fun _=>rfl)
def f25v2_s:FS (Bool×Bool×(List TCongr)×(List TCongr)) (Bool) where
 sk:=⟨(.cons (.agg (.cons .bool (.cons (.all 0) (.cons (.all 1) .nil)))) (.cons (.agg (.cons .bool (.cons (.all 0) (.cons (.all 1) .nil)))) .nil)),[.cells cCongr,.cells cCongr],0⟩
 a:=fun u=>(u.1.1.1,u.1.2.1.1,u.2.1,u.2.2.1)
 n:=fun a=>(((a.1,((),((),()))),((a.2.1,((),((),()))),())),(a.2.2.1,(a.2.2.2,())))
 o:=fun Z a r K=>K (.bool r) ⟨[.cells cCongr a.2.2.1,.cells cCongr a.2.2.2],0⟩
def f25v2_q4:PD (((List TCongr)×(List TCongr))×Bool×Bool×Bool) ((Unit) ⊕ (Unit)) where
 sk:=⟨[(4,.v (.ptr 2 0)),(19,.v (.fn 116 (.cons (.ptr 3 0) (.cons (.ptr 5 0) .nil))))],[],[.cells cCongr,.cells cCongr,.opn (.cons .bool .nil),.opn (.cons (.ptr 4 0) .nil),.opn (.cons .bool (.cons (.all 0) (.cons (.all 1) .nil))),.opn (.cons .bool (.cons (.all 0) (.cons (.all 1) .nil)))],0,2⟩
 p:=fun u=>((u.2.2.1,u.2.2.2.1),u.2.2.2.2.1.1,u.2.2.2.2.2.2.1.1,u.2.2.2.2.2.2.2.1.1)
 n:=fun p=>(((),(((),((),())),())),((),(p.1.1,(p.1.2,((p.2.1,()),(((),()),((p.2.2.1,((),((),()))),((p.2.2.2,((),((),()))),()))))))))
 st:=fun Y p ke=>(f116v4_m (p.2.2.1,p.1.1,p.1.2,p.2.2.2,p.2.1)).bind fun r1=>
  Sum.elim (fun r2=>ke (.inl ()))
  (fun r3=>ke (.inr (()))) r1
 o:=fun Z p e K=>Sum.elim (fun e=>K .ret ⟨[(4,.v (.ptr 2 0))],[],⟨[.cells cCongr p.1.1,.cells cCongr p.1.2,.opn [.bool false]],0⟩,2⟩) (fun e=>K .normal ⟨[(4,.v (.ptr 2 0))],[],⟨[.cells cCongr p.1.1,.cells cCongr p.1.2,.opn [.bool p.2.1]],0⟩,2⟩) e
 pol:=⟨[4,19],[],[],[]⟩
 pe:=[(.ret,⟨[4],[],[],[]⟩),(.normal,⟨[4],[],[],[]⟩)]
def f25v2_c {X:Type} (a:Bool×Bool×(List TCongr)×(List TCongr)) (K:Bool→Option X):Option X:=
 cond (!a.1)
 (K (!a.1))
 (cond (!a.2.1)
 (K (!a.1))
 ((f25v2_q4.m (a.2.2,false,a.1,a.2.1)).bind fun e1=>
 Sum.elim (fun e2=>K false)
 (fun e3=>K true) e1))
def f25v2_m (a:Bool×Bool×(List TCongr)×(List TCongr)):Option (Bool):=f25v2_c a some
def f25v2_sp:Spec:=f25v2_s.sp f25v2_m
noncomputable def f25v2_e:Env:=⟨fun k=>[].contains k,callsL [(63,f63v3_sp),(116,f116v4_sp)],fun X k s K=>if k=4 then f25v2_q4.q X s K else none⟩
theorem f25v2_q4_ok {C:V.Callee} (hc:SimCall C f25v2_e.call):LoopSim f25v2_e.loop (vc par C true [] 28) (.rangeFunc (rfG (subAt [1,1,0,1,0] (bodyOf Tryz.f25))) (rfPs (subAt [1,1,0,1,0] (bodyOf Tryz.f25))) (rfA (subAt [1,1,0,1,0] (bodyOf Tryz.f25))) (rfB (subAt [1,1,0,1,0] (bodyOf Tryz.f25)))):=
 range_form glob_ok (env:=f25v2_e) (env0:=f25v2_e) hc rfl (id:=250004) (ks:=[4]) (by kernel_rfl) f25v2_q4 (by kernel_rfl) (by intros;simp only [f25v2_q4,PD.m,n1,n2,n3,n4,n5,n6,n7,n8]) (fun _=>by kernel_rfl) (fun _=>rfl) (fun _ _ e _=>by rcases e with e|e<;>rfl) (fun _ _ _=>by kernel_rfl)
theorem f25v2_ok:OK (9) 25 (f25v2_s.sp f25v2_m):=
 fnOK (d:=8) (env:=f25v2_e) (callsL_sim (cc f63v3_ok (cc f116v4_ok cn))) (fn:=Tryz.f25) (locs:=[]) (sh:= .any) (fz:=false) (by kernel_rfl) (fun hc=>(lp_of (by kernel_rfl) (lp_cons (f25v2_q4_ok hc) lp_nil))) (mc:=fun X a K=>f25v2_c a K) (fun _ _ _=>by kernel_rfl) (by intros;simp only [f25v2_m,f25v2_c,n1,n2,n3,n4,n5,n6,n7,n8]) (fun _=>rfl)
def f17v1_s:FS (Bool×TMods×(List TCongr)×(List TCongr)) (Bool) where
 sk:=⟨(.cons (.agg (.cons .bool (.cons (.all 0) (.cons (.all 1) .nil)))) (.cons (.agg (.cons .bool (.cons (.lit cCongr) (.cons (.lit cCongr) .nil)))) .nil)),[.cells cCongr,.cells cCongr],0⟩
 a:=fun u=>(u.1.1.1,(u.1.2.1.1,(u.1.2.1.2.1,u.1.2.1.2.2.1)),u.2.1,u.2.2.1)
 n:=fun a=>(((a.1,((),((),()))),((a.2.1.1,(a.2.1.2.1,(a.2.1.2.2,()))),())),(a.2.2.1,(a.2.2.2,())))
 o:=fun Z a r K=>K (.bool r) ⟨[.cells cCongr a.2.2.1,.cells cCongr a.2.2.2],0⟩
def f17v1_l4:LD ((Bool×(TMods×((List TCongr)×(List TCongr))))) (Int) ((Unit) ⊕ (Unit)) where
 sk:=⟨[(2,.loc 0 0),(3,.loc 1 0),(5,.v (.int .i64))],[(.cons .bool (.cons (.all 0) (.cons (.all 1) .nil))),(.cons .bool (.cons (.lit cCongr) (.cons (.lit cCongr) .nil)))],[.cells cCongr,.cells cCongr],0,2⟩
 p:=fun u=>(u.2.1.1.1,((u.2.1.2.1.1,(u.2.1.2.1.2.1,u.2.1.2.1.2.2.1)),(u.2.2.1,u.2.2.2.1)))
 t:=fun u=>u.1.1
 n:=fun p t=>((t,()),(((p.1,((),((),()))),((p.2.1.1,(p.2.1.2.1,(p.2.1.2.2,()))),())),(p.2.2.1,(p.2.2.2,()))))
 st:=fun Y p t ki ke=>cond (decide (t<(nt (List.length p.2.2.1))))
  (ask (V.inRange t (List.length p.2.2.1)) (ask (V.inRange t (List.length p.2.1.2.1)) (cond (!(((gx p.2.2.1 (Int.toNat t) dCongr).1==(gx p.2.1.2.1 (Int.toNat t) dCongr).1)&&((decide ((gx p.2.2.1 (Int.toNat t) dCongr).2.1=(gx p.2.1.2.1 (Int.toNat t) dCongr).2.1))&&((decide ((gx p.2.2.1 (Int.toNat t) dCongr).2.2=(gx p.2.1.2.1 (Int.toNat t) dCongr).2.2))&&true))))
  (ke (.inl ()))
  (ki ((wi64 (t+(1:Int))))))))
  (ke (.inr (())))
 o:=fun Z p e K=>Sum.elim (fun e=>K .ret ⟨[(4,.v (.bool false))],[],⟨[.cells cCongr p.2.2.1,.cells cCongr p.2.2.2],0⟩,2⟩) (fun e=>K (.exit 0) ⟨[(2,.loc 0 0),(3,.loc 1 0)],[[.bool p.1,.all 0,.all 1],[.bool p.2.1.1,.lit cCongr p.2.1.2.1,.lit cCongr p.2.1.2.2]],⟨[.cells cCongr p.2.2.1,.cells cCongr p.2.2.2],0⟩,2⟩) e
 pol:=⟨[2,3,5],[],[],[]⟩
 pe:=[(.ret,⟨[4],[],[],[]⟩),(.exit 0,⟨[2,3],[],[],[]⟩)]
def f17v1_l9:LD ((Bool×(TMods×((List TCongr)×(List TCongr))))) (Int) ((Unit) ⊕ (Unit)) where
 sk:=⟨[(2,.loc 0 0),(3,.loc 1 0),(6,.v (.int .i64))],[(.cons .bool (.cons (.all 0) (.cons (.all 1) .nil))),(.cons .bool (.cons (.lit cCongr) (.cons (.lit cCongr) .nil)))],[.cells cCongr,.cells cCongr],0,2⟩
 p:=fun u=>(u.2.1.1.1,((u.2.1.2.1.1,(u.2.1.2.1.2.1,u.2.1.2.1.2.2.1)),(u.2.2.1,u.2.2.2.1)))
 t:=fun u=>u.1.1
 n:=fun p t=>((t,()),(((p.1,((),((),()))),((p.2.1.1,(p.2.1.2.1,(p.2.1.2.2,()))),())),(p.2.2.1,(p.2.2.2,()))))
 st:=fun Y p t ki ke=>cond (decide (t<(nt (List.length p.2.2.2))))
  (ask (V.inRange t (List.length p.2.2.2)) (ask (V.inRange t (List.length p.2.1.2.2)) (cond (!(((gx p.2.2.2 (Int.toNat t) dCongr).1==(gx p.2.1.2.2 (Int.toNat t) dCongr).1)&&((decide ((gx p.2.2.2 (Int.toNat t) dCongr).2.1=(gx p.2.1.2.2 (Int.toNat t) dCongr).2.1))&&((decide ((gx p.2.2.2 (Int.toNat t) dCongr).2.2=(gx p.2.1.2.2 (Int.toNat t) dCongr).2.2))&&true))))
  (ke (.inl ()))
  (ki ((wi64 (t+(1:Int))))))))
  (ke (.inr (())))
 o:=fun Z p e K=>Sum.elim (fun e=>K .ret ⟨[(4,.v (.bool false))],[],⟨[.cells cCongr p.2.2.1,.cells cCongr p.2.2.2],0⟩,2⟩) (fun e=>K (.exit 2) ⟨[],[],⟨[.cells cCongr p.2.2.1,.cells cCongr p.2.2.2],0⟩,2⟩) e
 pol:=⟨[2,3,6],[],[],[]⟩
 pe:=[(.ret,⟨[4],[],[],[]⟩),(.exit 2,⟨[],[],[],[]⟩)]
def f17v1_c {X:Type} (a:Bool×TMods×(List TCongr)×(List TCongr)) (K:Bool→Option X):Option X:=
 cond (!(a.1==a.2.1.1))
 (K false)
 (cond (!(decide ((nt (List.length a.2.2.1))=(nt (List.length a.2.1.2.1)))))
 (K false)
 (cond (!(decide ((nt (List.length a.2.2.2))=(nt (List.length a.2.1.2.2)))))
 (K false)
 ((loopAll (f17v1_l4.m a) 0).bind fun e1=>
 Sum.elim (fun e2=>K false)
 (fun e3=>(loopAll (f17v1_l9.m a) 0).bind fun e4=>
 Sum.elim (fun e5=>K false)
 (fun e6=>K true) e4) e1)))
def f17v1_m (a:Bool×TMods×(List TCongr)×(List TCongr)):Option (Bool):=f17v1_c a some
def f17v1_sp:Spec:=f17v1_s.sp f17v1_m
noncomputable def f17v1_e:Env:=⟨fun k=>[].contains k,callsL [],fun X k s K=>if k=4 then f17v1_l4.q X s K else if k=9 then f17v1_l9.q X s K else none⟩
noncomputable def f17v1_l4_c:Code:=subAt [1,1,0,1,0,0] (bodyOf Tryz.f17)
theorem f17v1_l4_ok {C:V.Callee} (hc:SimCall C f17v1_e.call):LoopSim f17v1_e.loop (vc par C true [2,3] 66) (.loop f17v1_l4_c):=
 loop_form glob_ok hc (lp_of (by kernel_rfl) lp_nil) f17v1_l4 (by kernel_rfl) (by intros;simp only [f17v1_l4,LD.m,n1,n2,n3,n4,n5,n6,n7,n8]) (fun _ _=>by kernel_rfl) (fun _=>rfl) (fun _ _ e _=>by rcases e with e|e<;>rfl) (fun _ _ _=>by kernel_rfl)
noncomputable def f17v1_l9_c:Code:=subAt [1,1,1,0,1,0,0] (bodyOf Tryz.f17)
theorem f17v1_l9_ok {C:V.Callee} (hc:SimCall C f17v1_e.call):LoopSim f17v1_e.loop (vc par C true [2,3] 66) (.loop f17v1_l9_c):=
 loop_form glob_ok hc (lp_of (by kernel_rfl) lp_nil) f17v1_l9 (by kernel_rfl) (by intros;simp only [f17v1_l9,LD.m,n1,n2,n3,n4,n5,n6,n7,n8]) (fun _ _=>by kernel_rfl) (fun _=>rfl) (fun _ _ e _=>by rcases e with e|e<;>rfl) (fun _ _ _=>by kernel_rfl)
theorem f17v1_ok:OK (1) 17 (f17v1_s.sp f17v1_m):=
 fnOK (d:=0) (env:=f17v1_e) (callsL_sim cn) (fn:=Tryz.f17) (locs:=[2,3]) (sh:= .any) (fz:=false) (by kernel_rfl) (fun hc=>(lp_of (by kernel_rfl) (lp_cons (f17v1_l4_ok hc) (lp_cons (f17v1_l9_ok hc) lp_nil)))) (mc:=fun X a K=>f17v1_c a K) (fun _ _ _=>by kernel_rfl) (by intros;simp only [f17v1_m,f17v1_c,n1,n2,n3,n4,n5,n6,n7,n8]) (fun _=>rfl)
def f18_s:FS (Bool×(List TCongr)×(List TCongr)) ((List TCongr)×(List TCongr)) where
 sk:=⟨(.cons (.agg (.cons .bool (.cons (.all 0) (.cons (.all 1) .nil)))) .nil),[.cells cCongr,.cells cCongr],0⟩
 a:=fun u=>(u.1.1.1,u.2.1,u.2.2.1)
 n:=fun a=>(((a.1,((),((),()))),()),(a.2.1,(a.2.2,())))
 o:=fun Z a r K=>K (.tup []) ⟨[.cells cCongr r.1,.cells cCongr r.2],0⟩
def f18_l2:LD (Bool×(List TCongr)) (Int×(List TCongr)) ((List TCongr)) where
 sk:=⟨[(1,.loc 0 0),(2,.v (.int .i64))],[(.cons .bool (.cons (.all 0) (.cons (.all 1) .nil)))],[.cells cCongr,.cells cCongr],0,2⟩
 p:=fun u=>(u.2.1.1.1,u.2.2.2.1)
 t:=fun u=>(u.1.1,u.2.2.1)
 n:=fun p t=>((t.1,()),(((p.1,((),((),()))),()),(t.2,(p.2,()))))
 st:=fun Y p t ki ke=>cond (decide (t.1<(nt (List.length t.2))))
  (ask (V.inRange t.1 (List.length t.2)) (ki ((wi64 (t.1+(1:Int))),(List.set t.2 (Int.toNat t.1) (false,(0,4321))))))
  (ke (t.2))
 o:=fun Z p e K=>K (.exit 0) ⟨[(1,.loc 0 0)],[[.bool p.1,.all 0,.all 1]],⟨[.cells cCongr e,.cells cCongr p.2],0⟩,2⟩
 pol:=⟨[1,2],[],[],[]⟩
 pe:=[(.exit 0,⟨[1],[],[],[]⟩)]
def f18_l6:LD (Bool×(List TCongr)) (Int×(List TCongr)) ((List TCongr)) where
 sk:=⟨[(1,.loc 0 0),(3,.v (.int .i64))],[(.cons .bool (.cons (.all 0) (.cons (.all 1) .nil)))],[.cells cCongr,.cells cCongr],0,2⟩
 p:=fun u=>(u.2.1.1.1,u.2.2.1)
 t:=fun u=>(u.1.1,u.2.2.2.1)
 n:=fun p t=>((t.1,()),(((p.1,((),((),()))),()),(p.2,(t.2,()))))
 st:=fun Y p t ki ke=>cond (decide (t.1<(nt (List.length t.2))))
  (ask (V.inRange t.1 (List.length t.2)) (ki ((wi64 (t.1+(1:Int))),(List.set t.2 (Int.toNat t.1) (false,(0,4321))))))
  (ke (t.2))
 o:=fun Z p e K=>K (.exit 2) ⟨[],[],⟨[.cells cCongr p.2,.cells cCongr e],0⟩,2⟩
 pol:=⟨[1,3],[],[],[]⟩
 pe:=[(.exit 2,⟨[],[],[],[]⟩)]
def f18_c {X:Type} (a:Bool×(List TCongr)×(List TCongr)) (K:(List TCongr)×(List TCongr)→Option X):Option X:=
 (loopAll (f18_l2.m (a.1,a.2.2)) (0,a.2.1)).bind fun e1=>
 (loopAll (f18_l6.m (a.1,e1)) (0,a.2.2)).bind fun e2=>
 K (e1,e2)
def f18_m (a:Bool×(List TCongr)×(List TCongr)):Option ((List TCongr)×(List TCongr)):=f18_c a some
def f18_sp:Spec:=f18_s.sp f18_m
noncomputable def f18_e:Env:=⟨fun k=>[].contains k,callsL [],fun X k s K=>if k=2 then f18_l2.q X s K else if k=6 then f18_l6.q X s K else none⟩
noncomputable def f18_l2_c:Code:=subAt [1,0,1,0,0] (bodyOf Tryz.f18)
theorem f18_l2_ok {C:V.Callee} (hc:SimCall C f18_e.call):LoopSim f18_e.loop (vc par C true [1] 28) (.loop f18_l2_c):=
 loop_form glob_ok hc (lp_of (by kernel_rfl) lp_nil) f18_l2 (by kernel_rfl) (by intros;simp only [f18_l2,LD.m,n1,n2,n3,n4,n5,n6,n7,n8]) (fun _ _=>by kernel_rfl) (fun _=>rfl) (fun _ _ _ _=>rfl) (fun _ _ _=>by kernel_rfl)
noncomputable def f18_l6_c:Code:=subAt [1,1,1,0,0] (bodyOf Tryz.f18)
theorem f18_l6_ok {C:V.Callee} (hc:SimCall C f18_e.call):LoopSim f18_e.loop (vc par C true [1] 28) (.loop f18_l6_c):=
 loop_form glob_ok hc (lp_of (by kernel_rfl) lp_nil) f18_l6 (by kernel_rfl) (by intros;simp only [f18_l6,LD.m,n1,n2,n3,n4,n5,n6,n7,n8]) (fun _ _=>by kernel_rfl) (fun _=>rfl) (fun _ _ _ _=>rfl) (fun _ _ _=>by kernel_rfl)
theorem f18_ok:OK (1) 18 (f18_s.sp f18_m):=
 fnOK (d:=0) (env:=f18_e) (callsL_sim cn) (fn:=Tryz.f18) (locs:=[1]) (sh:= .any) (fz:=false) (by kernel_rfl) (fun hc=>(lp_of (by kernel_rfl) (lp_cons (f18_l2_ok hc) (lp_cons (f18_l6_ok hc) lp_nil)))) (mc:=fun X a K=>f18_c a K) (fun _ _ _=>by kernel_rfl) (by intros;simp only [f18_m,f18_c,n1,n2,n3,n4,n5,n6,n7,n8]) (fun _=>rfl)
def f110_s:FS (Int×Int) (Int) where
 sk:=⟨(.cons (.int .u64) (.cons (.int .u64) .nil)),[],0⟩
 a:=fun u=>(u.1.1,u.1.2.1)
 n:=fun a=>((a.1,(a.2,())),())
 o:=fun Z a r K=>K (.int .u64 r) ⟨[],0⟩
def f110_l1:LD (Unit) (Int×Int) (Int) where
 sk:=⟨[(0,.v (.int .u64)),(1,.v (.int .u64))],[],[],0,0⟩
 p:=fun u=>()
 t:=fun u=>(u.1.1,u.1.2.1)
 n:=fun p t=>((t.1,(t.2,())),((),()))
 st:=fun Y p t ki ke=>cond (!(decide (t.2=(0:Int))))
  (cond (decide (t.2=(0:Int)))
  (none)
  (ki (t.2,(Int.tmod t.1 t.2))))
  (ke (t.1))
 o:=fun Z p e K=>K (.exit 0) ⟨[(0,.v (.int .u64 e))],[],⟨[],0⟩,0⟩
 pol:=⟨[0,1],[],[],[]⟩
 pe:=[(.exit 0,⟨[0],[],[],[]⟩)]
def f110_c {X:Type} (a:Int×Int) (K:Int→Option X):Option X:=
 (loopAll (f110_l1.m ()) (a.1,a.2)).bind fun e1=>
 K e1
def f110_m (a:Int×Int):Option (Int):=f110_c a some
def f110_sp:Spec:=f110_s.sp f110_m
noncomputable def f110_e:Env:=⟨fun k=>[].contains k,callsL [],fun X k s K=>if k=1 then f110_l1.q X s K else none⟩
noncomputable def f110_l1_c:Code:=subAt [1,0,0,0] (bodyOf Tryz.f110)
theorem f110_l1_ok {C:V.Callee} (hc:SimCall C f110_e.call):LoopSim f110_e.loop (vc par C true [] 12) (.loop f110_l1_c):=
 loop_form glob_ok hc (lp_of (by kernel_rfl) lp_nil) f110_l1 (by kernel_rfl) (by intros;simp only [f110_l1,LD.m,n1,n2,n3,n4,n5,n6,n7,n8]) (fun _ _=>by kernel_rfl) (fun _=>rfl) (fun _ _ _ _=>rfl) (fun _ _ _=>by kernel_rfl)
theorem f110_ok:OK (1) 110 (f110_s.sp f110_m):=
 fnOK (d:=0) (env:=f110_e) (callsL_sim cn) (fn:=Tryz.f110) (locs:=[]) (sh:= .any) (fz:=false) (by kernel_rfl) (fun hc=>(lp_of (by kernel_rfl) (lp_cons (f110_l1_ok hc) lp_nil))) (mc:=fun X a K=>f110_c a K) (fun _ _ _=>by kernel_rfl) (by intros;simp only [f110_m,f110_c,n1,n2,n3,n4,n5,n6,n7,n8]) (fun _=>rfl)
def f109_s:FS (Int×Int) (TCongr) where
 sk:=⟨(.cons (.int .u64) (.cons (.int .i64) .nil)),[],0⟩
 a:=fun u=>(u.1.1,u.1.2.1)
 n:=fun a=>((a.1,(a.2,())),())
 o:=fun Z a r K=>K (.agg [.bool r.1,.int .i64 r.2.1,.int .i64 r.2.2]) ⟨[],0⟩
def f109_c {X:Type} (a:Int×Int) (K:TCongr→Option X):Option X:=
 (f111_m a.2).bind fun r1=>
 (f123_m (a.1,r1,(decide (a.2<(0:Int))))).bind fun r2=>
 K r2
def f109_m (a:Int×Int):Option (TCongr):=f109_c a some
def f109_sp:Spec:=f109_s.sp f109_m
noncomputable def f109_e:Env:=⟨fun k=>[].contains k,callsL [(111,f111_sp),(123,f123_sp)],fun X k s K=>none⟩
theorem f109_ok:OK (3) 109 (f109_s.sp f109_m):=
 fnOK (d:=2) (env:=f109_e) (callsL_sim (cc f111_ok (cc f123_ok cn))) (fn:=Tryz.f109) (locs:=[4]) (sh:= .any) (fz:=false) (by kernel_rfl) (fun hc=>(lp_of (by kernel_rfl) lp_nil)) (mc:=fun X a K=>f109_c a K) (fun _ _ _=>by kernel_rfl) (by intros;simp only [f109_m,f109_c,n1,n2,n3,n4,n5,n6,n7,n8]) (fun _=>rfl)
def f56_s:FS (TCongr×TCongr) (TCongr) where
 sk:=⟨(.cons (.agg (.cons .bool (.cons (.int .i64) (.cons (.int .i64) .nil)))) (.cons (.agg (.cons .bool (.cons (.int .i64) (.cons (.int .i64) .nil)))) .nil)),[],0⟩
 a:=fun u=>((u.1.1.1,(u.1.1.2.1,u.1.1.2.2.1)),(u.1.2.1.1,(u.1.2.1.2.1,u.1.2.1.2.2.1)))
 n:=fun a=>(((a.1.1,(a.1.2.1,(a.1.2.2,()))),((a.2.1,(a.2.2.1,(a.2.2.2,()))),())),())
 o:=fun Z a r K=>K (.agg [.bool r.1,.int .i64 r.2.1,.int .i64 r.2.2]) ⟨[],0⟩
def f56_c {X:Type} (a:TCongr×TCongr) (K:TCongr→Option X):Option X:=
 cond a.1.1
 (K a.2)
 (cond a.2.1
 (K a.1)
 ((f111_m a.1.2.1).bind fun r1=>
 (f111_m a.2.2.1).bind fun r2=>
 (f110_m (r1,r2)).bind fun r3=>
 (f111_m (wi64 (a.1.2.2-a.2.2.2))).bind fun r4=>
 (f110_m (r3,r4)).bind fun r5=>
 (f109_m (r5,a.1.2.2)).bind fun r6=>
 K r6))
def f56_m (a:TCongr×TCongr):Option (TCongr):=f56_c a some
def f56_sp:Spec:=f56_s.sp f56_m
noncomputable def f56_e:Env:=⟨fun k=>[].contains k,callsL [(111,f111_sp),(110,f110_sp),(109,f109_sp)],fun X k s K=>none⟩
theorem f56_ok:OK (4) 56 (f56_s.sp f56_m):=
 fnOK (d:=3) (env:=f56_e) (callsL_sim (cc f111_ok (cc f110_ok (cc f109_ok cn)))) (fn:=Tryz.f56) (locs:=[2,3,4]) (sh:= .any) (fz:=false) (by kernel_rfl) (fun hc=>(lp_of (by kernel_rfl) lp_nil)) (mc:=fun X a K=>f56_c a K) (fun _ _ _=>by kernel_rfl) (by intros;simp only [f56_m,f56_c,n1,n2,n3,n4,n5,n6,n7,n8]) (fun _=>rfl)
def f76_s:FS ((List TCongr)×(List TCongr)) ((List TCongr)) where
 sk:=⟨(.cons (.lit cCongr) (.cons (.lit cCongr) .nil)),[],0⟩
 a:=fun u=>(u.1.1,u.1.2.1)
 n:=fun a=>((a.1,(a.2,())),())
 o:=fun Z a r K=>K (.lit cCongr r) ⟨[],0⟩
def f76_l3:LD (((List TCongr)×(List TCongr))) (Int×(List TCongr)) ((List TCongr)) where
 sk:=⟨[(0,.v (.lit cCongr)),(1,.v (.lit cCongr)),(5,.v (.all 0)),(6,.v (.int .i64))],[],[.cells cCongr],0,0⟩
 p:=fun u=>(u.1.1,u.1.2.1)
 t:=fun u=>(u.1.2.2.2.1,u.2.2.1)
 n:=fun p t=>((p.1,(p.2,((),(t.1,())))),((),(t.2,())))
 st:=fun Y p t ki ke=>cond (decide (t.1<(nt (List.length p.1))))
  (ask (V.inRange t.1 (List.length p.1)) (ask (V.inRange t.1 (List.length p.2)) ((f56_m ((gx p.1 (Int.toNat t.1) dCongr),(gx p.2 (Int.toNat t.1) dCongr))).bind fun r1=>
  ask (decide (((List.length t.2)+(List.length ([r1]:List TCongr))) * 24≤70368744177664)&&decide (((List.length t.2)+(List.length ([r1]:List TCongr)))<9223372036854775808)) (ki ((wi64 (t.1+(1:Int))),(t.2++([r1]:List TCongr)))))))
  (ke (t.2))
 o:=fun Z p e K=>K (.exit 0) ⟨[(5,.v (.all 0))],[],⟨[.cells cCongr e],0⟩,0⟩
 pol:=⟨[0,1,5,6],[(5,(.own cCongr))],[],[]⟩
 pe:=[(.exit 0,⟨[5],[],[],[]⟩)]
def f76_c {X:Type} (a:(List TCongr)×(List TCongr)) (K:(List TCongr)→Option X):Option X:=
 (loopAll (f76_l3.m a) (0,[])).bind fun e1=>
 K e1
def f76_m (a:(List TCongr)×(List TCongr)):Option ((List TCongr)):=f76_c a some
def f76_sp:Spec:=f76_s.sp f76_m
noncomputable def f76_e:Env:=⟨fun k=>[].contains k,callsL [(56,f56_sp)],fun X k s K=>if k=3 then f76_l3.q X s K else none⟩
noncomputable def f76_l3_c:Code:=subAt [1,1,0,1,0,0] (bodyOf Tryz.f76)
theorem f76_l3_ok {C:V.Callee} (hc:SimCall C f76_e.call):LoopSim f76_e.loop (vc par C true [] 26) (.loop f76_l3_c):=
 loop_form glob_ok hc (lp_of (by kernel_rfl) lp_nil) f76_l3 (by kernel_rfl) (by intros;simp only [f76_l3,LD.m,n1,n2,n3,n4,n5,n6,n7,n8]) (fun _ _=>by kernel_rfl) (fun _=>rfl) (fun _ _ _ _=>rfl) (fun _ _ _=>by kernel_rfl)
theorem f76_ok:OK (5) 76 (f76_s.sp f76_m):=
 fnOK (d:=4) (env:=f76_e) (callsL_sim (cc f56_ok cn)) (fn:=Tryz.f76) (locs:=[]) (sh:=(.lit cCongr)) (fz:=true) (by kernel_rfl) (fun hc=>(lp_of (by kernel_rfl) (lp_cons (f76_l3_ok hc) lp_nil))) (mc:=fun X a K=>f76_c a K) (fun _ _ _=>by kernel_rfl) (by intros;simp only [f76_m,f76_c,n1,n2,n3,n4,n5,n6,n7,n8]) (fun _=>rfl)
def f36_s:FS (TMods×TMods) (TMods) where
 sk:=⟨(.cons (.agg (.cons .bool (.cons (.lit cCongr) (.cons (.lit cCongr) .nil)))) (.cons (.agg (.cons .bool (.cons (.lit cCongr) (.cons (.lit cCongr) .nil)))) .nil)),[],0⟩
 a:=fun u=>((u.1.1.1,(u.1.1.2.1,u.1.1.2.2.1)),(u.1.2.1.1,(u.1.2.1.2.1,u.1.2.1.2.2.1)))
 n:=fun a=>(((a.1.1,(a.1.2.1,(a.1.2.2,()))),((a.2.1,(a.2.2.1,(a.2.2.2,()))),())),())
 o:=fun Z a r K=>K (.agg [.bool r.1,.lit cCongr r.2.1,.lit cCongr r.2.2]) ⟨[],0⟩
def f36_c {X:Type} (a:TMods×TMods) (K:TMods→Option X):Option X:=
 cond (!a.1.1)
 (K a.2)
 (cond (!a.2.1)
 (K a.1)
 ((f76_m (a.1.2.1,a.2.2.1)).bind fun r1=>
 (f76_m (a.1.2.2,a.2.2.2)).bind fun r2=>
 K (true,(r1,r2))))
def f36_m (a:TMods×TMods):Option (TMods):=f36_c a some
def f36_sp:Spec:=f36_s.sp f36_m
noncomputable def f36_e:Env:=⟨fun k=>[].contains k,callsL [(76,f76_sp)],fun X k s K=>none⟩
theorem f36_ok:OK (6) 36 (f36_s.sp f36_m):=
 fnOK (d:=5) (env:=f36_e) (callsL_sim (cc f76_ok cn)) (fn:=Tryz.f36) (locs:=[2,3,4]) (sh:=(.agg [.any,(.lit cCongr),(.lit cCongr)])) (fz:=true) (by kernel_rfl) (fun hc=>(lp_of (by kernel_rfl) lp_nil)) (mc:=fun X a K=>f36_c a K) (fun _ _ _=>by kernel_rfl) (by intros;simp only [f36_m,f36_c,n1,n2,n3,n4,n5,n6,n7,n8]) (fun _=>rfl)
def f9_s:FS (TGraph×TMods×TMods) (Bool) where
 sk:=⟨(.cons (.agg (.cons (.lit cInstr) (.cons (.int .i64) (.cons (.int .i64) (.cons (.int .i64) (.cons (.lit cArray) (.cons (.lit cScalar) (.cons (.lit cArray) (.cons (.lit cItv) .nil))))))))) (.cons (.agg (.cons .bool (.cons (.lit cCongr) (.cons (.lit cCongr) .nil)))) (.cons (.agg (.cons .bool (.cons (.lit cCongr) (.cons (.lit cCongr) .nil)))) .nil))),[],0⟩
 a:=fun u=>((u.1.1.1,(u.1.1.2.1,(u.1.1.2.2.1,(u.1.1.2.2.2.1,(u.1.1.2.2.2.2.1,(u.1.1.2.2.2.2.2.1,(u.1.1.2.2.2.2.2.2.1,u.1.1.2.2.2.2.2.2.2.1))))))),(u.1.2.1.1,(u.1.2.1.2.1,u.1.2.1.2.2.1)),(u.1.2.2.1.1,(u.1.2.2.1.2.1,u.1.2.2.1.2.2.1)))
 n:=fun a=>(((a.1.1,(a.1.2.1,(a.1.2.2.1,(a.1.2.2.2.1,(a.1.2.2.2.2.1,(a.1.2.2.2.2.2.1,(a.1.2.2.2.2.2.2.1,(a.1.2.2.2.2.2.2.2,())))))))),((a.2.1.1,(a.2.1.2.1,(a.2.1.2.2,()))),((a.2.2.1,(a.2.2.2.1,(a.2.2.2.2,()))),()))),())
 o:=fun Z a r K=>K (.bool r) ⟨[],0⟩
def f9_c {X:Type} (a:TGraph×TMods×TMods) (K:Bool→Option X):Option X:=
 (f10_m a.1).bind fun r1=>
 cond (!r1)
 ((f12_m ()).bind fun r2=>
 K r2)
 ((f32_m a.1).bind fun r3=>
 (f33_m a.1).bind fun r4=>
 (f17_m ((true,r3),(true,r4))).bind fun r5=>
 cond (!r5)
 (K false)
 ((f34_m (a.1,a.2.1)).bind fun r6=>
 (f11_m (a.1,a.2.1)).bind fun r7=>
 cond (!(r6==r7))
 (K false)
 ((f34v1_m (a.1,false)).bind fun r8=>
 cond (!r8)
 (K false)
 ((f11_m (a.1,a.2.1)).bind fun r9=>
 cond (!r9)
 ((f12_m ()).bind fun r10=>
 K r10)
 ((f11_m (a.1,a.2.2)).bind fun r11=>
 cond (!r11)
 ((f12_m ()).bind fun r12=>
 K r12)
 ((f15_m a.2.1).bind fun r13=>
 (f15_m a.2.2).bind fun r14=>
 (f26v1_m (a.2.1.1,a.2.2.1,a.2.1.2.1,a.2.1.2.2,a.2.2.2.1,a.2.2.2.2)).bind fun r15=>
 (f25v1_m (a.2.1.1,a.2.2.1,a.2.1.2.1,a.2.1.2.2,a.2.2.2.1,a.2.2.2.2)).bind fun r16=>
 (f35_m (a.2.1,a.2.2)).bind fun r17=>
 cond (!(r16==r17))
 (K false)
 ((f25v2_m (a.2.1.1,a.2.1.1,a.2.1.2.1,a.2.1.2.2)).bind fun r18=>
 cond (!r18)
 (K false)
 ((f17v1_m (a.2.1.1,a.2.1,a.2.1.2.1,a.2.1.2.2)).bind fun r19=>
 cond (!r19)
 (K false)
 ((f17v1_m (a.2.2.1,a.2.2,a.2.2.2.1,a.2.2.2.2)).bind fun r20=>
 cond (!r20)
 (K false)
 ((f18_m (a.2.1.1,a.2.1.2.1,a.2.1.2.2)).bind fun r21=>
 (f18_m (a.2.2.1,a.2.2.2.1,a.2.2.2.2)).bind fun r22=>
 (f36_m (a.2.1,a.2.2)).bind fun r23=>
 (f17_m (r15,r23)).bind fun r24=>
 cond r24
 ((f12_m ()).bind fun r25=>
 K r25)
 (K false)))))))))))
def f9_m (a:TGraph×TMods×TMods):Option (Bool):=f9_c a some
def f9_sp:Spec:=f9_s.sp f9_m
noncomputable def f9_e:Env:=⟨fun k=>[].contains k,callsL [(10,f10_sp),(12,f12_sp),(32,f32_sp),(33,f33_sp),(17,(alt f17_s.tk f17_sp f17v1_sp)),(34,(alt f34_s.tk f34_sp f34v1_sp)),(11,f11_sp),(15,f15_sp),(26,f26v1_sp),(25,(alt f25v1_s.tk f25v1_sp f25v2_sp)),(35,f35_sp),(18,f18_sp),(36,f36_sp)],fun X k s K=>none⟩
theorem f9_ok:OK (166020696663385964549) 9 (f9_s.sp f9_m):=
 fnOK (d:=166020696663385964548) (env:=f9_e) (callsL_sim (cc f10_ok (cc f12_ok (cc f32_ok (cc f33_ok (cA f17_ok (cc f17v1_ok (cA f34_ok (cc f34v1_ok (cc f11_ok (cc f15_ok (cc f26v1_ok (cA f25v1_ok (cc f25v2_ok (cc f35_ok (cc f18_ok (cc f36_ok cn))))))))))))))))) (fn:=Tryz.f9) (locs:=[3,4,5,7,8,9]) (sh:= .any) (fz:=false) (by kernel_rfl) (fun hc=>(lp_of (by kernel_rfl) lp_nil)) (mc:=fun X a K=>f9_c a K) (fun _ _ _=>by kernel_rfl) (by intros;simp only [f9_m,f9_c,n1,n2,n3,n4,n5,n6,n7,n8]) (fun _=>rfl)
end
end Go.U
end

