/- The functions of the program as Lean functions, and that the evaluator says so. -/
import Derived.Test.YtjenflkegbmkkaaGreatDoorC12
set_option linter.unusedVariables false
set_option linter.unusedSimpArgs false
set_option linter.unusedSectionVars false
open Int renaming toNat→ga
open List renaming length→fa
section
set_option maxRecDepth 100000
namespace Go.U
open Go Go.Proofs
noncomputable section
variable {C:V.Callee}
def F7:FS (Y37) (Bool) where
 sk:=⟨(.cons (.agg (.cons (.all 0) (.cons (.all 1) (.cons (.all 2) .nil)))) (.cons (.agg (.cons (.all 3) (.cons (.all 4) (.cons (.all 5) .nil)))) .nil)),[.cells .bool,.cells (.pair .bool .bool),.cells ja,.cells .bool,.cells (.pair .bool .bool),.cells ja],0⟩
 a:=fun u=>(u.2.1,u.2.2.1,u.t3.1,u.t4.1,u.t5.1,u.t6.1)
 n:=fun a=>((((),((),((),()))),(((),((),((),()))),())),(w6 a))
 o:=fun Z a r K=>K (.bool r) ⟨[.cells .bool a.1,.cells (.pair .bool .bool) a.2.1,.cells ja a.2.2.1,.cells .bool a.t3.1,.cells (.pair .bool .bool) a.t4.1,.cells ja a.t5],0⟩
def Tl:LD (((List Bool)×(Y38))) (Int) ((Unit) ⊕ (Unit)) where
 sk:=⟨[(2,.loc 0 0),(3,.loc 1 0),(5,.v (.int .i64))],[(.cons (.all 0) (.cons (.all 1) (.cons (.all 2) .nil))),(.cons (.all 3) (.cons (.all 4) (.cons (.all 5) .nil)))],[.cells .bool,.cells (.pair .bool .bool),.cells ja,.cells .bool,.cells (.pair .bool .bool),.cells ja],0,6⟩
 p:=fun u=>(q6 u.2.2)
 t:=fun u=>u.1.1
 n:=fun p t=>((t,()),((((),((),((),()))),(((),((),((),()))),())),(w6 p)))
 st:=fun Y p t ki ke=>cond (decide (t<(nt (fa p.1))))
  (ask (V.va t (fa p.1)) (ask (V.va t (fa p.2.2.2.1)) (cond (!((gx p.1 (ga t) false)==(gx p.2.2.2.1 (ga t) false)))
  (ke (.inl ()))
  (ask (V.va t (fa p.2.1)) (ask (V.va t (fa p.2.2.2.2.1)) (cond (!(((gx p.2.1 (ga t) (false,false)).1==(gx p.2.2.2.2.1 (ga t) (false,false)).1)&&(((gx p.2.1 (ga t) (false,false)).2==(gx p.2.2.2.2.1 (ga t) (false,false)).2)&&true)))
  (ke (.inl ()))
  (ki ((Ga (t+(1:Int)))))))))))
  (ke (.inr (())))
 o:=fun Z p e K=>Sum.elim (fun e=>K .ret ⟨[(4,.v (.bool false))],[],⟨[.cells .bool p.1,.cells (.pair .bool .bool) p.2.1,.cells ja p.2.2.1,.cells .bool p.t3.1,.cells (.pair .bool .bool) p.t4.1,.cells ja p.t5],0⟩,6⟩) (fun e=>K (.exit 0) ⟨[(2,.loc 0 0),(3,.loc 1 0)],[[.all 0,.all 1,.all 2],[.all 3,.all 4,.all 5]],⟨[.cells .bool p.1,.cells (.pair .bool .bool) p.2.1,.cells ja p.2.2.1,.cells .bool p.t3.1,.cells (.pair .bool .bool) p.t4.1,.cells ja p.t5],0⟩,6⟩) e
 Je:=⟨[2,3,5],[],[],[]⟩
 pe:=[(.ret,⟨[4],[],[],[]⟩),(.exit 0,⟨[2,3],[],[],[]⟩)]
def Sl:LD (((List Bool)×(Y38))) (Int) ((Unit) ⊕ (Unit)) where
 sk:=⟨[(2,.loc 0 0),(3,.loc 1 0),(6,.v (.int .i64))],[(.cons (.all 0) (.cons (.all 1) (.cons (.all 2) .nil))),(.cons (.all 3) (.cons (.all 4) (.cons (.all 5) .nil)))],[.cells .bool,.cells (.pair .bool .bool),.cells ja,.cells .bool,.cells (.pair .bool .bool),.cells ja],0,6⟩
 p:=fun u=>(q6 u.2.2)
 t:=fun u=>u.1.1
 n:=fun p t=>((t,()),((((),((),((),()))),(((),((),((),()))),())),(w6 p)))
 st:=fun Y p t ki ke=>cond (decide (t<(nt (fa p.2.2.1))))
  (ask (V.va t (fa p.2.2.1)) (ask (V.va t (fa p.2.2.2.2.2)) (cond (!((decide ((gx p.2.2.1 (ga t) Zb).1=(gx p.2.2.2.2.2 (ga t) Zb).1))&&((decide ((gx p.2.2.1 (ga t) Zb).2=(gx p.2.2.2.2.2 (ga t) Zb).2))&&true)))
  (ke (.inl ()))
  (ki ((Ga (t+(1:Int))))))))
  (ke (.inr (())))
 o:=fun Z p e K=>Sum.elim (fun e=>K .ret ⟨[(4,.v (.bool false))],[],⟨[.cells .bool p.1,.cells (.pair .bool .bool) p.2.1,.cells ja p.2.2.1,.cells .bool p.t3.1,.cells (.pair .bool .bool) p.t4.1,.cells ja p.t5],0⟩,6⟩) (fun e=>K (.exit 2) ⟨[],[],⟨[.cells .bool p.1,.cells (.pair .bool .bool) p.2.1,.cells ja p.2.2.1,.cells .bool p.t3.1,.cells (.pair .bool .bool) p.t4.1,.cells ja p.t5],0⟩,6⟩) e
 Je:=⟨[2,3,6],[],[],[]⟩
 pe:=[(.ret,⟨[4],[],[],[]⟩),(.exit 2,⟨[],[],[],[]⟩)]
def jO {X:Type} (a:Y37) (K:Bool->Option X):Option X:=
 cond (!(decide ((nt (fa a.1))=(nt (fa a.2.2.2.1)))))
 (K false)
 (cond (!(decide ((nt (fa a.2.1))=(nt (fa a.2.2.2.2.1)))))
 (K false)
 (cond (!(decide ((nt (fa a.2.2.1))=(nt (fa a.2.2.2.2.2)))))
 (K false)
 ((Oa (Tl.m a) 0).bind fun e1=>
 Sum.elim (fun e2=>K false)
 (fun e3=>(Oa (Sl.m a) 0).bind fun e4=>
 Sum.elim (fun e5=>K false)
 (fun e6=>K true) e4) e1)))
def CD:=fun a=>jO a some
def Faa:Spec:=F7.sp CD
noncomputable def HI:Env:=⟨fun k=>[].contains k,Cb [],fun X k s K=>if k=4 then Tl.q X s K else if k=9 then Sl.q X s K else none⟩
noncomputable def XX:Code:=Lb [1,1,0,1,0,0] (vb Tryz.f13)
theorem wR (hc:Sa C HI.call):Va HI.loop (vc par C true [2,3] 81) (.loop XX):=
 lO hc Tl (by intros;simp only [Tl,LD.m,nn])
noncomputable def WX:Code:=Lb [1,1,1,0,1,0,0] (vb Tryz.f13)
theorem vR (hc:Sa C HI.call):Va HI.loop (vc par C true [2,3] 81) (.loop WX):=
 lO hc Sl (by intros;simp only [Sl,LD.m,nn])
theorem Gaa:OK (1) 13 (F7.sp CD):=
 fO (d:=0) (env:=HI) (Aa cn) (fn:=Tryz.f13) (mc:=@jO) (by intros;simp only [CD,jO,nn]) (za:=[2,3]) (hl:=fun hc=>(Yc (by kernel_rfl) (Db (wR hc) (Db (vR hc) Bc))))
end
end Go.U
end
